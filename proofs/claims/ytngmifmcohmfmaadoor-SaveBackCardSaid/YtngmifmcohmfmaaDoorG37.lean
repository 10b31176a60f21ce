/- A part of the proof: the texts TdPu. Under: nothing. -/
import Derived.Test.YtngmifmcohmfmaaDoorG27
import Derived.Test.YtngmifmcohmfmaaDoorG05
set_option linter.unusedVariables false
namespace Go.Ab.Td
set_option maxRecDepth 100000
set_option maxRecDepth 100000
open Go Go.Ab
variable {P:Program}
set_option linter.unusedSimpArgs false
attribute [local irreducible] e9
theorem put_eq {b s:List UInt8} {k:Int} (h0:0≤k) (_hk:k+s.length≤b.length):(b.take k.toNat).drop (0:Int).toNat++s++(b.take ((b.length:Nat):Int).toNat).drop (k+s.length).toNat=U2 b k.toNat s:=by
 unfold U2
 rw [Int.toNat_natCast,List.take_length,show (0:Int).toNat=0 from rfl,List.drop_zero,show (k+s.length).toNat=k.toNat+s.length by omega]
open Classical in
noncomputable def a2M (o:Ob) (at' n:Int):Int:=if at'<0∨at'>o.len∨n>IntKind.i64.wrap (o.len - at') then 23 else 0
theorem c0O {o:Ob} {at' n:Int} (h:a2M o at' n=0) (h0:0≤o.len) (h1:o.len≤1000):0≤at'∧at'+n≤o.len∧at'≤o.len:=by
 unfold a2M at h
 split at h
 ·cases h
 ·have:IntKind.i64.wrap (o.len - at')=o.len - at':=wrap_small (by omega) (by omega)
  omega
def a5H (h:List Cl) (o:Ob) (at':Int) (s:List UInt8):List Cl:=h.set o.ref.toNat {cellAt h o with bytes:=U2 (cellAt h o).bytes (o.off+at').toNat s}
def a5I (h:List Cl) (o:Ob) (at':Int) (l:List Ob):List Cl:=h.set o.ref.toNat {cellAt h o with items:=U2 (cellAt h o).items (o.off+at').toNat l}
theorem c5W {h:List Cl} {o:Ob} (hv:a9p h o [6]=0):(0≤o.ref∧o.ref<h.length)∧(0≤o.off∧0≤o.len∧o.off+o.len≤1000)∧o.off+o.len≤(cellAt h o).bytes.length:=by
 obtain ⟨⟨hr1,hr2⟩,⟨hf1,hf2,hf3⟩,hk,hc⟩:=b4h hv
 have hk6:o.kind=6:=by simpa using hk
 obtain ⟨hc3,hc4,hc5⟩:=hc.resolve_left (by rw [hk6];decide)
 exact ⟨⟨hr1,by omega⟩,⟨hf1,hf2,hf3⟩,by simpa [hk6,Cl.length,hc4,H4] using hc5⟩
set_option maxHeartbeats 1000000 in
theorem b0l (C:Laid P) (h:List Cl) (o:Ob) (hs:small h) (_ho:o.n<9223372036854775808) (at1:Int) (s:List UInt8) (hl:s.length≤30) (hv:a9p h o [6]=0) (hr:a2M o at1 s.length=0):j4 P G W8 [.sl 7 (List.map j8 h),aO o,pI at1,.str s] [] (.sl 7 (List.map j8 (a5H h o at1 s))):=by
 refine i5 C (b0W C) rfl ?_
 obtain ⟨⟨hr1,hr2⟩,⟨hf1,hf2,hf3⟩,hc6⟩:=c5W hv
 obtain ⟨ha1,ha2,ha3⟩:=c0O hr (by omega) (by omega)
 have hsm:=b0C hs o
 obtain ⟨hm1,hm2,hm3,hm4⟩:=hsm
 have hw:IntKind.i64.wrap (o.off+at1)=o.off+at1:=wrap_small (by omega) (by omega)
 have hh:=hs.1
 have hw2:IntKind.i64.wrap (o.off+at1+s.length)=o.off+at1+s.length:=wrap_small (by omega) (by omega)
 have hca:((h[o.ref.toNat]?).getD cl0)=cellAt h o:=rfl
 repeat' ((conv=>whnf);first | (with_reducible refine sC (by kernel_rfl) ?_) | ((first | (with_reducible first | refine sB ?_ | refine o5 ?_ | refine o6 ?_) | refine sP (by rfl) ?_);first | refine Or.inl ⟨by first | assumption | (simp only [nm];first | done | assumption | omega),?_⟩ | refine Or.inr (Or.inl ⟨by first | assumption | (simp only [nm];first | done | assumption | omega),?_⟩) | (refine Or.inr (Or.inr ⟨fun hsp=>?_,fun hsp=>?_⟩) <;>(try simp only [nm] at hsp) <;>try subst hsp)) | refine ⟨_,_,(by rw [hw,hw2,put_eq (by omega) (by omega)];exact a2e C h o.ref {cellAt h o with bytes:=U2 (cellAt h o).bytes (o.off+at1).toNat s} hr1 hr2 hh),?_⟩ | refine sS (e7 (by rfl) (by rfl) (by omega) (a0w (d:=cl0) (by omega) (by omega))) ?_ | refine sS (a3n (s:=(cellAt h o).bytes) (l:=0) (by rfl) (by rfl) (by rfl) (by omega) (by rw [hw];omega) (by rw [hw];omega)) ?_ | refine sS (a3n (s:=(cellAt h o).bytes) (h:=(cellAt h o).bytes.length) (by rfl) (by rfl) (by rfl) (by rw [hw,hw2];omega) (by rw [hw,hw2];omega) (by omega)) ?_ | refine sS (c4S (by rfl) (by rfl) (by simp only [List.length_append,List.length_take,List.length_drop];omega)) ?_ | fail)
 all_goals (conv=>whnf)
 all_goals (first | exact PV.le.refl _ | skip)
theorem b8j {α:Type} {l x:List α} {k i:Nat} (hk:k+x.length≤l.length) (hi:i<l.length):(U2 l k x)[i]?=if k≤i∧i<k+x.length then x[i - k]? else l[i]?:=by
 unfold U2
 by_cases h1:i<k
 ·rw [if_neg (by omega),List.append_assoc,List.getElem?_append_left (by simp;omega),List.getElem?_take_of_lt h1]
 ·by_cases h2:i<k+x.length
  ·rw [if_pos ⟨by omega,h2⟩,List.append_assoc,List.getElem?_append_right (by simp;omega),List.getElem?_append_left (by simp;omega)]
   congr 1
   simp;omega
  ·rw [if_neg (by omega),List.getElem?_append_right (by simp;omega),List.getElem?_drop]
   congr 1
   simp;omega
theorem b5L {α:Type} {l:List α} {i:Nat} {v:α} (h:l[i]?=some v):l.take (i+1)=l.take i++[v]:=by
 rw [List.take_add_one,h];rfl
theorem a7F {α:Type} {l x:List α} {k:Nat} (hk:k+x.length≤l.length):(U2 l k x).length=l.length:=by
 unfold U2;simp;omega
set_option maxHeartbeats 1000000 in
theorem b0m (C:Laid P) (h:List Cl) (o:Ob) (hs:small h) (_ho:o.n<9223372036854775808) (at1:Int) (l:List Ob) (hl:l.length≤8) (hv:a9p h o [7,8]=0) (hr:a2M o at1 l.length=0):j4 P G W9 [.sl 7 (List.map j8 h),aO o,pI at1,.sl 7 (List.map i4 l)] [] (.sl 7 (List.map j8 (a5I h o at1 l))):=by
 refine i5 C (b0X C) rfl ?_
 obtain ⟨⟨hr1,hr2⟩,⟨hf1,hf2,hf3⟩,hc6⟩:=c4I hv
 obtain ⟨ha1,ha2,ha3⟩:=c0O hr (by omega) (by omega)
 have hsm:=b0C hs o
 obtain ⟨hm1,hm2,hm3,hm4⟩:=hsm
 have hw:IntKind.i64.wrap (o.off+at1)=o.off+at1:=wrap_small (by omega) (by omega)
 have hh:=hs.1
 have hca:((h[o.ref.toNat]?).getD cl0)=cellAt h o:=rfl
 have hkl:(o.off+at1).toNat+l.length≤(cellAt h o).items.length:=by omega
 have hRl:=a7F hkl
 repeat' ((conv=>whnf);first | (with_reducible refine sC (by kernel_rfl) ?_) | ((first | (with_reducible first | refine sB ?_ | refine o5 ?_ | refine o6 ?_) | refine sP (by rfl) ?_);first | refine Or.inl ⟨by first | assumption | (simp only [nm,List.length_map];first | done | assumption | omega),?_⟩ | refine Or.inr (Or.inl ⟨by first | assumption | (simp only [nm,List.length_map];first | done | assumption | omega),?_⟩) | (refine Or.inr (Or.inr ⟨fun hsp=>?_,fun hsp=>?_⟩) <;>(try simp only [nm,List.length_map] at hsp) <;>try subst hsp)) | refine sS (e7 (by rfl) (by rfl) (by omega) (a0w (d:=cl0) (by omega) (by omega))) ?_ | fail)
 all_goals (conv=>whnf)
 intro X hX hW
 refine hW _ _ (.tmp 10 7 (by decide) (by rfl)) ?_
 refine a2s hX (fun st (a:Nat)=>st.upd [(10,.own 44 0 a),(11,.pv (pI (a:Int)))] [(44,.arr 7 (((U2 (cellAt h o).items (o.off+at1).toNat l).take a).map i4) false)]) (fun a m=>a+m=(cellAt h o).items.length∧(((cellAt h o).items.drop a).length=(cellAt h o).items.length - a)) 0 (cellAt h o).items.length (by (conv=>whnf);first | done | rfl) (by simp) ?_
 intro m i ih hI
 rcases a0J (cellAt h o).items i with ⟨x,hlt,hx⟩ | hge
 ·have hrow:=y9 (f:=i4) hx
  have hd:=W1 hx
  have hI2:=hI.2
  rw [hd] at hI2
  have hwi1:IntKind.i64.wrap ((i:Int) - o.off)=(i:Int) - o.off:=wrap_small (by omega) (by omega)
  have hwi:IntKind.i64.wrap (IntKind.i64.wrap ((i:Int) - o.off) - at1)=(i:Int) - o.off - at1:=by rw [hwi1];exact wrap_small (by omega) (by omega)
  have hRi:((U2 (cellAt h o).items (o.off+at1).toNat l).take i).length=i:=by rw [List.length_take,hRl];omega
  obtain ⟨v,hv,hR⟩:∃ v,((0≤IntKind.i64.wrap (IntKind.i64.wrap ((i:Int) - o.off) - at1)∧IntKind.i64.wrap (IntKind.i64.wrap ((i:Int) - o.off) - at1)<l.length)∧v=(l[(IntKind.i64.wrap (IntKind.i64.wrap ((i:Int) - o.off) - at1)).toNat]?).getD ob0∨¬ (0≤IntKind.i64.wrap (IntKind.i64.wrap ((i:Int) - o.off) - at1)∧IntKind.i64.wrap (IntKind.i64.wrap ((i:Int) - o.off) - at1)<l.length)∧x=v)∧(U2 (cellAt h o).items (o.off+at1).toNat l).take (i+1)=(U2 (cellAt h o).items (o.off+at1).toNat l).take i++[v]:=by
   by_cases hin:0≤IntKind.i64.wrap (IntKind.i64.wrap ((i:Int) - o.off) - at1)∧IntKind.i64.wrap (IntKind.i64.wrap ((i:Int) - o.off) - at1)<l.length
   ·refine ⟨_,.inl ⟨hin,rfl⟩,b5L ?_⟩
    rw [b8j hkl hlt,if_pos (by omega),show i - (o.off+at1).toNat=(IntKind.i64.wrap (IntKind.i64.wrap ((i:Int) - o.off) - at1)).toNat by omega,List.getElem?_eq_getElem (by omega)]
    rfl
   ·refine ⟨_,.inr ⟨hin,rfl⟩,b5L ?_⟩
    rw [b8j hkl hlt,if_neg (by omega),hx]
  rcases hv with ⟨hin,rfl⟩ | ⟨hin,rfl⟩
  repeat' ((conv=>whnf);first | (with_reducible refine sC (by kernel_rfl) ?_) | ((first | (with_reducible first | refine sB ?_ | refine o5 ?_ | refine o6 ?_) | refine sP (by rfl) ?_);first | refine Or.inl ⟨by first | assumption | (simp only [nm,List.length_map,hca];first | done | assumption | omega),?_⟩ | refine Or.inr (Or.inl ⟨by first | assumption | (simp only [nm,List.length_map,hca];first | done | assumption | omega),?_⟩) | (refine Or.inr (Or.inr ⟨fun hsp=>?_,fun hsp=>?_⟩) <;>(try simp only [nm,List.length_map,hca] at hsp) <;>try subst hsp)) | refine ⟨_,_,(by rw [a2f (f:=i4) (l:=(U2 (cellAt h o).items (o.off+at1).toNat l).take i) (by rw [List.length_take,hRl];omega),List.take_of_length_le (l:=(U2 (cellAt h o).items (o.off+at1).toNat l)) (by omega)];exact a2e C h o.ref {cellAt h o with items:=(U2 (cellAt h o).items (o.off+at1).toNat l)} hr1 hr2 hh),?_⟩ | refine sS (e7 (by rfl) (by rfl) (by omega) hrow) ?_ | refine sS (e7 (by rfl) (by rfl) (by omega) (a0w (d:=ob0) (by omega) (by omega))) ?_ | refine sS (m0 (f:=i4) (x':=[(l[(IntKind.i64.wrap (IntKind.i64.wrap ((i:Int) - o.off) - at1)).toNat]?).getD ob0]) (by rfl) (by rfl) hRi (by first | exact f0 | exact d8 | exact d9 (by rfl) (by rfl)) (by rfl) (by simp only [List.length_cons,List.length_nil];omega)) ?_ | refine sS (m0 (f:=i4) (x':=[x]) (by rfl) (by rfl) hRi (by first | exact f0 | exact d8 | exact d9 (by rfl) (by rfl)) (by rfl) (by simp only [List.length_cons,List.length_nil];omega)) ?_ | fail)
  all_goals (conv=>whnf)
  all_goals first
   | (refine ih (m - 1) (i+1) _ (by omega) ⟨by (try dsimp only);omega,?_⟩ (by (conv=>whnf);first | done | rfl | (simp (disch:=omega) only [A7,hR,List.map_append,List.map_cons,List.map_nil,List.length_cons,List.length_nil,Nat.zero_add])))
   | (with_reducible first | refine j9 ?_ | refine A0 ?_ | refine y3 ?_)
   | (refine A3 ?_;simp only [nm])
   | refine le_of_eq ?_
  all_goals (first | rfl | exact PV.le.refl _ | grind)
 ·have hd:(cellAt h o).items.drop i=[]:=List.drop_eq_nil_of_le hge
  have hI2:=hI.2
  rw [hd] at hI2
  repeat' ((conv=>whnf);first | (with_reducible refine sC (by kernel_rfl) ?_) | ((first | (with_reducible first | refine sB ?_ | refine o5 ?_ | refine o6 ?_) | refine sP (by rfl) ?_);first | refine Or.inl ⟨by first | assumption | (simp only [nm,List.length_map,hca];first | done | assumption | omega),?_⟩ | refine Or.inr (Or.inl ⟨by first | assumption | (simp only [nm,List.length_map,hca];first | done | assumption | omega),?_⟩) | (refine Or.inr (Or.inr ⟨fun hsp=>?_,fun hsp=>?_⟩) <;>(try simp only [nm,List.length_map,hca] at hsp) <;>try subst hsp)) | refine ⟨_,_,(by rw [a2f (f:=i4) (l:=(U2 (cellAt h o).items (o.off+at1).toNat l).take i) (by rw [List.length_take,hRl];omega),List.take_of_length_le (l:=(U2 (cellAt h o).items (o.off+at1).toNat l)) (by omega)];exact a2e C h o.ref {cellAt h o with items:=(U2 (cellAt h o).items (o.off+at1).toNat l)} hr1 hr2 hh),?_⟩ | fail)
  all_goals (conv=>whnf)
  all_goals first
   | (with_reducible first | refine j9 ?_ | refine A0 ?_ | refine y3 ?_)
   | (refine A3 ?_;simp only [nm])
   | refine le_of_eq ?_
  all_goals (first | rfl | exact PV.le.refl _ | grind)
end Go.Ab.Td
