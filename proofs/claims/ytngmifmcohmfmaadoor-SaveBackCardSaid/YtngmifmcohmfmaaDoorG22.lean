/- A part of the proof: the texts TdRC, TdRD, TdRE, TdRF, TdRG, TdRH, TdRI, TdKj, TdKk, TdKl, TdKm. Under: nothing. -/
import Derived.Test.YtngmifmcohmfmaaDoorG21
import Derived.Test.YtngmifmcohmfmaaDoorG12
import Derived.Test.YtngmifmcohmfmaaDoorG20
set_option linter.unusedVariables false
namespace Go.Ab.Td
set_option maxRecDepth 100000
set_option maxRecDepth 100000
open Go Go.Ab
variable {P:Program}
set_option linter.unusedSimpArgs false
attribute [local irreducible] e9
theorem a2f {α:Type} {f:α→List PV} {l:List α} {n:Nat} (h:l.length=n):List.take n (List.drop 0 (List.map f l))=List.map f l:=by
 subst h
 rw [List.drop_zero,List.take_of_length_le (by simp)]
set_option maxHeartbeats 1000000 in
theorem b3J (C:Laid P) (h:List Cl) (d k v:Ob) (c:Cl) (h0:0≤d.ref) (h1:d.ref<h.length) (hs:small h) (hp:a2L (cellAt h d) k v=some c):j4 P G Z4 [.sl 7 (List.map j8 h),aO d,aO k,aO v] [] (.x6 [.sl 7 (List.map j8 (h.set d.ref.toNat c)),.bool true]):=by
 refine i5 C (a8B C) rfl ?_
 have hsm:=b0C hs d
 obtain ⟨hm1,hm2,hm3,hm4⟩:=hsm
 have hl:=b3T (cellAt h d) k v
 have hcl:((h[d.ref.toNat]?).getD cl0)=cellAt h d:=rfl
 obtain ⟨hs1,hs2⟩:=hs
 repeat' ((conv=>whnf);first | (with_reducible refine sC (by kernel_rfl) ?_) | ((with_reducible refine sB ?_);first | refine Or.inl ⟨by first | assumption | (simp only [nm,List.length_map,hcl];first | done | assumption | omega),?_⟩ | refine Or.inr (Or.inl ⟨by first | assumption | (simp only [nm,List.length_map,hcl];first | done | assumption | omega),?_⟩) | (refine Or.inr (Or.inr ⟨fun hsp=>?_,fun hsp=>?_⟩) <;>(try simp only [nm,List.length_map,hcl] at hsp) <;>try subst hsp)) | ((with_reducible refine o5 ?_);first | refine Or.inl ⟨by first | assumption | (simp only [nm,List.length_map,hcl];first | done | assumption | omega),?_⟩ | refine Or.inr (Or.inl ⟨by first | assumption | (simp only [nm,List.length_map,hcl];first | done | assumption | omega),?_⟩) | (refine Or.inr (Or.inr ⟨fun hsp=>?_,fun hsp=>?_⟩) <;>(try simp only [nm,List.length_map,hcl] at hsp) <;>try subst hsp)) | ((with_reducible refine o6 ?_);first | refine Or.inl ⟨by first | assumption | (simp only [nm,List.length_map,hcl];first | done | assumption | omega),?_⟩ | refine Or.inr (Or.inl ⟨by first | assumption | (simp only [nm,List.length_map,hcl];first | done | assumption | omega),?_⟩) | (refine Or.inr (Or.inr ⟨fun hsp=>?_,fun hsp=>?_⟩) <;>(try simp only [nm,List.length_map,hcl] at hsp) <;>try subst hsp)) | ((refine sP (by rfl) ?_);first | refine Or.inl ⟨by first | assumption | (simp only [nm,List.length_map,hcl];first | done | assumption | omega),?_⟩ | refine Or.inr (Or.inl ⟨by first | assumption | (simp only [nm,List.length_map,hcl];first | done | assumption | omega),?_⟩) | (refine Or.inr (Or.inr ⟨fun hsp=>?_,fun hsp=>?_⟩) <;>(try simp only [nm,List.length_map,hcl] at hsp) <;>try subst hsp)) | refine ⟨_,_,a7A C (cellAt h d).keys k (by omega),?_⟩ | refine ⟨_,_,a6T C _ _ _ _ _ _ _ _ _ (by omega) (by omega) (by omega),?_⟩ | refine sS (o3 (x':=(cellAt h d).keys) (f:=i4) (by rfl) (by first | exact f0 | exact d8 | exact d9 (by rfl) (by rfl)) (by rfl) (by omega)) ?_ | refine sS (o3 (x':=(cellAt h d).x7) (f:=i4) (by rfl) (by first | exact f0 | exact d8 | exact d9 (by rfl) (by rfl)) (by rfl) (by omega)) ?_ | refine sS (m0 (l:=(cellAt h d).keys) (f:=i4) (x':=[k]) (by rfl) (by rfl) (by omega) (by first | exact f0 | exact d8 | exact d9 (by rfl) (by rfl)) (by rfl) (by simp only [List.length_cons,List.length_nil];omega)) ?_ | refine sS (m0 (l:=(cellAt h d).x7) (f:=i4) (x':=[v]) (by rfl) (by rfl) (by omega) (by first | exact f0 | exact d8 | exact d9 (by rfl) (by rfl)) (by rfl) (by simp only [List.length_cons,List.length_nil];omega)) ?_ | refine sS (e7 (by rfl) (by rfl) (by omega) (a0w (d:=cl0) (by omega) (by omega))) ?_ | refine sS (b6l (by rfl) (by rfl) (by rfl) (by omega) (by first | omega | (simp only [List.length_map];omega))) ?_ | refine sS (b6W (l:=(cellAt h d).x7) (c:=v) (by rfl) (by rfl) (by omega) (fun _=>rfl) (by rfl) (by rfl) (by rfl)) ?_ | rw [a2f (f:=i4) (l:=(cellAt h d).keys++[k]) (by simp)] | rw [a2f (f:=i4) (l:=(cellAt h d).x7++[v]) (by simp)] | rw [a2f (f:=i4) (l:=(cellAt h d).x7.set _ v) (by simp)] | fail)
 all_goals (conv=>whnf)
 all_goals (first | (exfalso;rw [hl.2.1 (by omega) (by omega)] at hp;cases hp) | (rw [hl.1 (by omega) (by omega)] at hp;cases hp;refine le_of_eq ?_;simp [hcl]) | (rw [hl.2.2 (by omega) (by omega)] at hp;cases hp;refine le_of_eq ?_;simp [hcl]))
end Go.Ab.Td
namespace Go.Ab.Td
set_option maxRecDepth 100000
open Go Go.Ab
variable {P:Program}
set_option linter.unusedSimpArgs false
attribute [local irreducible] e9
end Go.Ab.Td
namespace Go.Ab.Td
set_option maxRecDepth 100000
set_option maxRecDepth 100000
open Go Go.Ab
variable {P:Program}
set_option linter.unusedSimpArgs false
attribute [local irreducible] e9
set_option maxHeartbeats 1000000 in
theorem G7 (C:Laid P) (s:v9) (n:Int) (l:List Ob) (h0:0≤n) (h1:n≤s.ops.length) (h2:s.ops.length - n+l.length≤100) (h3:s.ops.length≤1000000) (h4:l.length≤1000000):j4 P G u3 [aS s,pI n,.sl 7 (List.map i4 l)] [] (.x6 [aS {s with ops:=s.ops.take (s.ops.length - n.toNat)++l},pI 0]):=by
 refine i5 C (a6K C) rfl ?_
 have hw:IntKind.i64.wrap ((s.ops.length:Int) - n)=(s.ops.length:Int) - n:=wrap_small (by omega) (by omega)
 have hw2:IntKind.i64.wrap ((s.ops.length:Int) - n+l.length)=(s.ops.length:Int) - n+l.length:=wrap_small (by omega) (by omega)
 have ht:((s.ops.length:Int) - n).toNat=s.ops.length - n.toNat:=by omega
 repeat' ((conv=>whnf);first | (with_reducible refine sC (by kernel_rfl) ?_) | ((with_reducible refine sB ?_);first | refine Or.inl ⟨by first | assumption | (simp only [nm,List.length_map,hw,hw2];first | done | assumption | omega),?_⟩ | refine Or.inr (Or.inl ⟨by first | assumption | (simp only [nm,List.length_map,hw,hw2];first | done | assumption | omega),?_⟩) | (refine Or.inr (Or.inr ⟨fun hsp=>?_,fun hsp=>?_⟩) <;>(try simp only [nm,List.length_map,hw,hw2] at hsp) <;>try subst hsp)) | ((with_reducible refine o5 ?_);first | refine Or.inl ⟨by first | assumption | (simp only [nm,List.length_map,hw,hw2];first | done | assumption | omega),?_⟩ | refine Or.inr (Or.inl ⟨by first | assumption | (simp only [nm,List.length_map,hw,hw2];first | done | assumption | omega),?_⟩) | (refine Or.inr (Or.inr ⟨fun hsp=>?_,fun hsp=>?_⟩) <;>(try simp only [nm,List.length_map,hw,hw2] at hsp) <;>try subst hsp)) | ((with_reducible refine o6 ?_);first | refine Or.inl ⟨by first | assumption | (simp only [nm,List.length_map,hw,hw2];first | done | assumption | omega),?_⟩ | refine Or.inr (Or.inl ⟨by first | assumption | (simp only [nm,List.length_map,hw,hw2];first | done | assumption | omega),?_⟩) | (refine Or.inr (Or.inr ⟨fun hsp=>?_,fun hsp=>?_⟩) <;>(try simp only [nm,List.length_map,hw,hw2] at hsp) <;>try subst hsp)) | ((refine sP (by rfl) ?_);first | refine Or.inl ⟨by first | assumption | (simp only [nm,List.length_map,hw,hw2];first | done | assumption | omega),?_⟩ | refine Or.inr (Or.inl ⟨by first | assumption | (simp only [nm,List.length_map,hw,hw2];first | done | assumption | omega),?_⟩) | (refine Or.inr (Or.inr ⟨fun hsp=>?_,fun hsp=>?_⟩) <;>(try simp only [nm,List.length_map,hw,hw2] at hsp) <;>try subst hsp)) | refine sS (U1 (by rfl) (by rfl) (by rfl) (by omega) (by simp only [List.length_map,hw];omega) (by simp only [List.length_map,hw];omega)) ?_ | refine sS (o3 (f:=i4) (by rfl) (by first | exact f0 | exact d8 | exact d9 (by rfl) (by rfl)) (by rfl) (by simp only [List.length_map,hw,ht,List.length_drop,List.length_take];omega)) ?_ | refine sS (m0 (f:=i4) (x':=l) (by rfl) (by rfl) (by rfl) (by first | exact f0 | exact d8 | exact d9 (by rfl) (by rfl)) (by rfl) (by simp only [List.length_map,hw,ht,List.length_drop,List.length_take];omega)) ?_ | fail)
 all_goals (conv=>whnf)
 all_goals (refine w5 (I3.cons ?_ (I3.refl _));refine p8 (I3.cons (q9 ?_) (I3.refl _));simp only [List.length_map,hw,ht];simp;exact List.take_of_length_le (by simp))
end Go.Ab.Td
namespace Go.Ab.Td
set_option maxRecDepth 100000
open Go Go.Ab
variable {P:Program}
set_option linter.unusedSimpArgs false
attribute [local irreducible] e9
end Go.Ab.Td
namespace Go.Ab.Td
set_option maxRecDepth 100000
open Go Go.Ab
variable {P:Program}
set_option linter.unusedSimpArgs false
attribute [local irreducible] e9
end Go.Ab.Td
namespace Go.Ab.Td
set_option maxRecDepth 100000
open Go Go.Ab
variable {P:Program}
set_option linter.unusedSimpArgs false
attribute [local irreducible] e9
end Go.Ab.Td
namespace Go.Ab.Td
set_option maxRecDepth 100000
open Go Go.Ab
variable {P:Program}
set_option linter.unusedSimpArgs false
attribute [local irreducible] e9
noncomputable def oct (h:List Cl) (o:Ob):Option (List UInt8):=if o.kind=5 then some o.name else if o.kind=6 then some (sub h o) else none
end Go.Ab.Td
namespace Go.Ab.Td
set_option maxRecDepth 100000
set_option maxRecDepth 100000
open Go Go.Ab
variable {P:Program}
set_option linter.unusedSimpArgs false
attribute [local irreducible] e9
set_option maxHeartbeats 1000000 in
theorem a7z (C:Laid P) (h:List Cl) (hl:h.length<2 ^ 62):j4 P G a1Y [.sl 7 (List.map j8 h)] [] (pI (o7 0 h)):=by
 refine i5 C (b4y C) rfl ?_
 repeat' ((conv=>whnf);first | (with_reducible refine sC (by kernel_rfl) ?_) | ((first | (with_reducible first | refine sB ?_ | refine o5 ?_ | refine o6 ?_) | refine sP (by rfl) ?_);first | refine oT ?_ | refine oF ?_ | (refine Or.inr (Or.inr ⟨fun hsp=>?_,fun hsp=>?_⟩) <;>(try simp only [nm] at hsp) <;>try subst hsp)) | fail)
 all_goals (conv=>whnf)
 intro X hX hW
 refine a2s hX (fun st (a:Nat × Int)=>st.upd [(3,.pv (pI a.2)),(4,.pv (pI (a.1:Int)))] []) (fun a m=>a.1+m=h.length∧(o7 0 h=o7 a.2 (h.drop a.1))) (0,0) h.length (by (conv=>whnf);first | done | rfl) (by simp) ?_
 intro m a ih hI
 rcases a0J h a.1 with ⟨x,hlt,hx⟩ | hge
 ·have hrow:=y9 (f:=j8) hx
  have hd:=W1 hx
  have hI2:=hI.2
  rw [hd] at hI2
  simp only [o7] at hI2
  repeat' ((conv=>whnf);first | (with_reducible refine sC (by kernel_rfl) ?_) | ((first | (with_reducible first | refine sB ?_ | refine o5 ?_ | refine o6 ?_) | refine sP (by rfl) ?_);first | refine oT ?_ | refine oF ?_ | (refine Or.inr (Or.inr ⟨fun hsp=>?_,fun hsp=>?_⟩) <;>(try simp only [nm,List.length_map] at hsp) <;>try subst hsp)) | refine ⟨_,_,a6S C x.kind x.bytes x.items x.keys x.x7 x.max x.at',?_⟩ | refine sS (e7 (by rfl) (by rfl) (by omega) hrow) ?_ | fail)
  all_goals (conv=>whnf)
  all_goals first
   | (refine ih (m - 1) (a.1+1,(IntKind.i64.wrap (a.2+x.size))) _ (by omega) ⟨by (try dsimp only);omega,?_⟩ (by (conv=>whnf);first | done | rfl | (simp (disch:=omega) only [A7])))
   | (with_reducible first | refine j9 ?_ | refine A0 ?_ | refine y3 ?_)
   | (refine A3 ?_;simp only [nm])
   | refine le_of_eq ?_
  all_goals grind
 ·have hd:h.drop a.1=[]:=List.drop_eq_nil_of_le hge
  have hI2:=hI.2
  rw [hd] at hI2
  simp only [o7] at hI2
  repeat' ((conv=>whnf);first | (with_reducible refine sC (by kernel_rfl) ?_) | ((first | (with_reducible first | refine sB ?_ | refine o5 ?_ | refine o6 ?_) | refine sP (by rfl) ?_);first | refine oT ?_ | refine oF ?_ | (refine Or.inr (Or.inr ⟨fun hsp=>?_,fun hsp=>?_⟩) <;>(try simp only [nm,List.length_map] at hsp) <;>try subst hsp)) | refine ⟨_,_,a6S C x.kind x.bytes x.items x.keys x.x7 x.max x.at',?_⟩ | fail)
  all_goals (conv=>whnf)
  all_goals first
   | (with_reducible first | refine j9 ?_ | refine A0 ?_ | refine y3 ?_)
   | (refine A3 ?_;simp only [nm])
   | refine le_of_eq ?_
  all_goals grind
end Go.Ab.Td
namespace Go.Ab.Td
set_option maxRecDepth 100000
open Go Go.Ab
variable {P:Program}
set_option linter.unusedSimpArgs false
attribute [local irreducible] e9
def c9T (l:List Ob) (i:Nat) (k:Ob):Prop:=k.kind≠0∧k.kind≠6∧k.key=k∧(i:Int)≤j1 k 0 l
def b5t (l:List Ob):Prop:=∀ (i:Nat) (k:Ob),l[i]?=some k→c9T l i k
end Go.Ab.Td
namespace Go.Ab.Td
set_option maxRecDepth 100000
open Go Go.Ab
variable {P:Program}
set_option linter.unusedSimpArgs false
attribute [local irreducible] e9
def Y7 (h:List Cl) (c:Cl):Prop:=
 (c.kind=1∧(c.bytes.length≤1000∧c.items.length=0∧c.keys.length=0∧c.x7.length=0∧c.max=0∧c.at'=0))∨
 (c.kind=2∧(c.bytes=[]∧c.items.length≤1000∧(∀ o ∈ c.items,fits h o)∧c.keys.length=0∧c.x7.length=0∧c.max=0∧c.at'=0))∨
 (c.kind=3∧(c.bytes=[]∧c.items.length=0∧c.at'=0∧0≤c.max∧c.max≤200∧c.keys.length=c.x7.length∧(c.keys.length:Int)≤c.max∧(∀ o ∈ c.keys,fits h o)∧(∀ o ∈ c.x7,fits h o)∧b5t c.keys))∨
 (c.kind=4∧(c.bytes.length≤4000∧c.items.length=0∧c.keys.length=0∧c.x7.length=0∧0≤c.at'∧c.at'≤c.bytes.length∧(c.max=0∨c.max=1)))
end Go.Ab.Td
namespace Go.Ab.Td
set_option maxRecDepth 100000
open Go Go.Ab
variable {P:Program}
set_option linter.unusedSimpArgs false
attribute [local irreducible] e9
end Go.Ab.Td
