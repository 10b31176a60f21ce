/- A part of the proof: the texts TdSm, TdRm. Under: nothing. -/
import Derived.Test.YtngmifmcohmfmaaDoorG33
import Derived.Test.YtngmifmcohmfmaaDoorG05
set_option linter.unusedVariables false
namespace Go.Ab.Td
set_option maxRecDepth 100000
set_option maxRecDepth 100000
open Go Go.Ab
variable {P:Program}
set_option linter.unusedSimpArgs false
attribute [local irreducible] j6
theorem Cl.ext' (a b:Cl):(a=b)=(a.kind=b.kind∧a.bytes=b.bytes∧a.items=b.items∧a.keys=b.keys∧a.v3=b.v3∧a.max=b.max∧a.at'=b.at'):=by
 cases a;cases b;simp
def c4n (c:Cl):Prop:=c.keys.length<2 ^ 62∧c.v3.length<2 ^ 62∧c.items.length<2 ^ 62
def big (h:List Cl):Prop:=h.length<2 ^ 62∧∀ c ∈ h,c4n c
set_option maxHeartbeats 1000000 in
theorem a3j (C:Laid P) (a b:Cl) (ha:c4n a):l9 P G L3 [aC a,aC b] [] (.bool (tt (a=b))):=by
 refine l7 C (a4h C) rfl ?_
 obtain ⟨h1,h2,h3⟩:=ha
 have he:=Cl.ext' a b
 repeat' ((conv=>whnf);first | (with_reducible refine sC (by kernel_rfl) ?_) | ((first | (with_reducible first | refine sB ?_ | refine A2 ?_ | refine A3 ?_) | refine sP (by rfl) ?_);first | refine oT ?_ | refine oF ?_ | (refine Or.inr (Or.inr ⟨fun hsp=>?_,fun hsp=>?_⟩) <;>(try simp only [nm,List.length_map] at hsp) <;>try subst hsp)) | refine ⟨_,_,J1 C a.items b.items (by assumption),?_⟩ | refine ⟨_,_,J1 C a.keys b.keys (by assumption),?_⟩ | refine ⟨_,_,J1 C a.v3 b.v3 (by assumption),?_⟩ | fail)
 all_goals (conv=>whnf)
 all_goals (first | (with_reducible refine L9 ?_) | (with_reducible refine J2 ?_) | (refine N7 ?_;try simp (disch:=omega) only [nm,wrap_small])) <;>(grind)
set_option maxHeartbeats 1000000 in
theorem a7b (C:Laid P) (l1 l2:List Cl) (hs:big l1):l9 P G S7 [.sl 7 (List.map m9 l1),.sl 7 (List.map m9 l2)] [] (.bool (tt (l1=l2))):=by
 refine l7 C (a8j C) rfl ?_
 obtain ⟨hl,hs1⟩:=hs
 repeat' ((conv=>whnf);first | (with_reducible refine sC (by kernel_rfl) ?_) | ((first | (with_reducible first | refine sB ?_ | refine A2 ?_ | refine A3 ?_) | refine sP (by rfl) ?_);first | refine oT ?_ | refine oF ?_ | (refine Or.inr (Or.inr ⟨fun hsp=>?_,fun hsp=>?_⟩) <;>(try simp only [nm,List.length_map] at hsp) <;>try subst hsp)) | fail)
 all_goals (conv=>whnf)
 all_goals try (exact J2 (by intro e;subst e;simp_all))
 intro X hX hW
 refine a6V hX (fun st (a:Nat)=>st.upd [(5,.pv (pI (a:Int)))] []) (fun a m=>a+m=l1.length∧(l1.length=l2.length∧((l1=l2)=(l1.drop a=l2.drop a)))) 0 l1.length (by (conv=>whnf);first | done | rfl) (by simp;omega) ?_
 intro m i ih hI
 rcases a5u l1 i with ⟨x,hlt,hx⟩ | hge
 ·have hrow:=T4 (f:=m9) hx
  have hd:=a4N hx
  have hI2:=hI.2
  rw [hd] at hI2
  obtain ⟨y,hy⟩:∃ y,l2[i]?=some y:=⟨_,List.getElem?_eq_getElem (by omega)⟩
  have hrow2:=T4 (f:=m9) hy
  have hd2:=a4N hy
  rw [hd2,List.cons.injEq] at hI2
  have hxs:=hs1 x (List.mem_of_getElem? hx)
  repeat' ((conv=>whnf);first | (with_reducible refine sC (by kernel_rfl) ?_) | ((first | (with_reducible first | refine sB ?_ | refine A2 ?_ | refine A3 ?_) | refine sP (by rfl) ?_);first | refine oT ?_ | refine oF ?_ | (refine Or.inr (Or.inr ⟨fun hsp=>?_,fun hsp=>?_⟩) <;>(try simp only [nm,List.length_map] at hsp) <;>try subst hsp)) | refine ⟨_,_,a3j C x y hxs,?_⟩ | refine sS (i4 (by rfl) (by rfl) (by omega) hrow) ?_ | refine sS (i4 (by rfl) (by rfl) (by omega) hrow2) ?_ | fail)
  all_goals (conv=>whnf)
  all_goals first
   | (refine ih (m - 1) (i+1) _ (by omega) ⟨by (try dsimp only);omega,?_⟩ (by (conv=>whnf);first | done | rfl | (simp (disch:=omega) only [H8])))
   | (with_reducible first | refine z9 ?_ | refine L9 ?_ | refine J2 ?_)
   | (refine N7 ?_;simp only [nm])
   | refine le_of_eq ?_
  all_goals (first | (have hd2:l2.drop i=[]:=List.drop_eq_nil_of_le (by omega);grind) | grind)
 ·have hd:l1.drop i=[]:=List.drop_eq_nil_of_le hge
  have hI2:=hI.2
  rw [hd] at hI2
  repeat' ((conv=>whnf);first | (with_reducible refine sC (by kernel_rfl) ?_) | ((first | (with_reducible first | refine sB ?_ | refine A2 ?_ | refine A3 ?_) | refine sP (by rfl) ?_);first | refine oT ?_ | refine oF ?_ | (refine Or.inr (Or.inr ⟨fun hsp=>?_,fun hsp=>?_⟩) <;>(try simp only [nm,List.length_map] at hsp) <;>try subst hsp)) | refine ⟨_,_,a3j C x y hxs,?_⟩ | fail)
  all_goals (conv=>whnf)
  all_goals first
   | (with_reducible first | refine z9 ?_ | refine L9 ?_ | refine J2 ?_)
   | (refine N7 ?_;simp only [nm])
   | refine le_of_eq ?_
  all_goals (first | (have hd2:l2.drop i=[]:=List.drop_eq_nil_of_le (by omega);grind) | grind)
end Go.Ab.Td
namespace Go.Ab.Td
set_option maxRecDepth 100000
set_option maxRecDepth 100000
open Go Go.Ab
variable {P:Program}
set_option linter.unusedSimpArgs false
attribute [local irreducible] j6 a2Z
def c2Q:List PV:=[.int .i64 0,.bool false,.int .i64 0,.str [],.int .i64 0,.int .i64 0,.int .i64 0]
def GP:Gl:=⟨G.gl,fun g=>match Nat.beq g B4 with | true=>some (b0B 7 c2Q) | false=>none⟩
theorem del_eq:K1=a6s 7 64 c2Q:=rfl
theorem c0J (C:Laid P):∀ g p,GP.a7B g=some p→b2N P g p:=by
 intro g p hg
 simp only [GP] at hg
 split at hg
 ·rename_i hb
  have:=Nat.eq_of_beq_eq_true hb
  subst this
  cases hg
  exact b7f C.mixed (bytes:=64) (by rw [← del_eq];exact a1W C)
 ·cases hg
theorem gp {g:Nat} {ps:List PV} {own:Own} {r:PV} (h:l9 P G g ps own r):l9 P GP g ps own r:=by
 intro w I vs hb hg ha
 exact h w I vs hb ⟨hg.X9,fun _ _ h=>by cases h⟩ ha
theorem pg (C:Laid P) {g:Nat} {ps:List PV} {own:Own} {r:PV} (h:l9 P GP g ps own r):l9 P G g ps own r:=by
 intro w I vs hb hg ha
 exact h w I vs hb ⟨hg.X9,c0J C⟩ ha
theorem c4A (C:Laid P) {g:Nat} {c:x4} {ps:List PV} {r:PV} (hk:i5 P g c=true) (hl:ps.length=c.nparams) (h:fnV GP (l9 P GP) noX noT noT 0 c ps r):l9 P GP g ps [] r:=
 a9a C.mixed hk (fun _ _ h=>by cases h) (fun _ _ h=>by cases h) (fun _ _ h=>by cases h) hl h
theorem b4G (C:Laid P) (x:Ob) (l:List Ob) (hl:l.length≤1000000):l9 P G x7 [.sl 7 (List.map m6 (x::l))] [(0,0)] (.sl 7 (List.map m6 (x::l))):=by
 refine b2B C.mixed (a2I C) (ext:=noX) (fun _ _ h=>by cases h) (tab:=noT) (A0:=noT) (d:=0) (fun _ _ h=>by cases h) (fun _ _ h=>by cases h) rfl ?_
 repeat' ((conv=>whnf);first | (with_reducible refine sC (by kernel_rfl) ?_) | ((first | (with_reducible first | refine sB ?_ | refine A2 ?_ | refine A3 ?_) | refine sP (by rfl) ?_);first | refine oT ?_ | refine oF ?_ | (refine Or.inr (Or.inr ⟨fun hsp=>?_,fun hsp=>?_⟩) <;>(try simp only [nm] at hsp) <;>try subst hsp)) | refine sS (o6 (f:=m6) (l:=([]:List Ob)) (x':=x::l) (by rfl) (by rfl) (by rfl) (by first | exact f0 | exact d9 | exact e8 (by rfl) (by rfl)) (by rfl) (by simp only [List.length_cons,List.length_nil];omega)) ?_ | fail)
 all_goals (conv=>whnf)
 refine ⟨20,[],?_,?_⟩
 ·show some [AV.own 20 0 (([]:List Ob).length+(x::l).length)]=_
  simp
 ·rfl
theorem c3o {k:Ob} {l:List Ob} (h:0≤i9 k 0 l):∃ i:Nat,i9 k 0 l=(i:Int)∧i<l.length:=by
 rcases b3h k l 0 with h1 | ⟨h1,h2⟩
 ·omega
 ·exact ⟨(i9 k 0 l).toNat,by omega,by omega⟩
def a0z (c:Cl) (i:Nat):Cl:={c with keys:=c.keys.eraseIdx i,v3:=c.v3.eraseIdx i}
set_option maxHeartbeats 1000000 in
theorem a8w (C:Laid P) (h:List Cl) (d k:Ob) (hs:small h) (hd:d.n<9223372036854775808) (hv:R6 h d [9]=0) (hi:i9 k 0 (cellAt h d).keys<0∨(cellAt h d).v3.length≤i9 k 0 (cellAt h d).keys):l9 P G O1 [.sl 7 (List.map m9 h),aO d,aO k] [] (.s9 [.sl 7 (List.map m9 h),pI 0]):=by
 refine l7 C (a3G C) rfl ?_
 obtain ⟨⟨hr1,hr2⟩,⟨hf1,hf2,hf3⟩,hkk,hcc⟩:=a1g hv
 have hk9:d.kind=9:=by simpa using hkk
 obtain ⟨hc3,hc4,hc5⟩:=hcc.resolve_left (by rw [hk9];decide)
 obtain ⟨hm1,hm2,hm3,hm4⟩:=a6m hs d
 have hh:=hs.1
 repeat' ((conv=>whnf);first | (with_reducible refine sC (by kernel_rfl) ?_) | ((first | (with_reducible first | refine sB ?_ | refine A2 ?_ | refine A3 ?_) | refine sP (by rfl) ?_);first | refine oT ?_ | refine oF ?_ | (refine Or.inr (Or.inr ⟨fun hsp=>?_,fun hsp=>?_⟩) <;>(try simp only [nm,List.length_map] at hsp) <;>try subst hsp)) | refine ⟨_,_,D6 C _ d [9] (by assumption) (by decide) (by assumption),?_⟩ | refine ⟨_,_,y7 C h d hr1 (by omega),?_⟩ | refine ⟨_,_,w9 C (cellAt h d).keys k (by omega),?_⟩ | fail)
 all_goals (conv=>whnf)
 all_goals (first | exact PV.le.refl _ | (exfalso;omega))
set_option maxHeartbeats 2000000 in
theorem a8v (C:Laid P) (h:List Cl) (d k:Ob) (hs:small h) (hd:d.n<9223372036854775808) (hv:R6 h d [9]=0) (i:Nat) (hi:i9 k 0 (cellAt h d).keys=(i:Int)) (hik:i<(cellAt h d).keys.length) (hiv:i<(cellAt h d).v3.length):l9 P GP O1 [.sl 7 (List.map m9 h),aO d,aO k] [] (.s9 [.sl 7 (List.map m9 (h.set d.ref.toNat (a0z (cellAt h d) i))),pI 0]):=by
 refine c4A C (a3G C) rfl ?_
 obtain ⟨⟨hr1,hr2⟩,⟨hf1,hf2,hf3⟩,hkk,hcc⟩:=a1g hv
 have hk9:d.kind=9:=by simpa using hkk
 obtain ⟨hc3,hc4,hc5⟩:=hcc.resolve_left (by rw [hk9];decide)
 obtain ⟨hm1,hm2,hm3,hm4⟩:=a6m hs d
 have hh:=hs.1
 have hwi:IntKind.i64.wrap ((i:Int)+1)=((i+1:Nat):Int):=by rw [wrap_small (by omega) (by omega)];omega
 have hx:=w9 C (cellAt h d).keys k (by omega)
 rw [hi] at hx
 have hw:=a3i C h d (a0z (cellAt h d) i) hr1 (by omega) hh
 have hck:∃ x l,(cellAt h d).keys=x::l:=by
  cases hq:(cellAt h d).keys with
  | nil=>rw [hq] at hik;exact absurd hik (by simp)
  | cons x l=>exact ⟨x,l,rfl⟩
 have hcv:∃ x l,(cellAt h d).v3=x::l:=by
  cases hq:(cellAt h d).v3 with
  | nil=>rw [hq] at hiv;exact absurd hiv (by simp)
  | cons x l=>exact ⟨x,l,rfl⟩
 have kk:l9 P G x7 [.sl 7 (List.map m6 (cellAt h d).keys)] [(0,0)] (.sl 7 (List.map m6 (cellAt h d).keys)):=by
  obtain ⟨x,l,e⟩:=hck
  rw [e] at hm1
  rw [e];exact b4G C x l (by simp at hm1;omega)
 have kv:l9 P G x7 [.sl 7 (List.map m6 (cellAt h d).v3)] [(0,0)] (.sl 7 (List.map m6 (cellAt h d).v3)):=by
  obtain ⟨x,l,e⟩:=hcv
  rw [e] at hm2
  rw [e];exact b4G C x l (by simp at hm2;omega)
 repeat' ((conv=>whnf);first | (with_reducible refine sC (by kernel_rfl) ?_) | ((first | (with_reducible first | refine sB ?_ | refine A2 ?_ | refine A3 ?_) | refine sP (by rfl) ?_);first | refine oT ?_ | refine oF ?_ | (refine Or.inr (Or.inr ⟨fun hsp=>?_,fun hsp=>?_⟩) <;>(try simp only [nm,List.length_map] at hsp) <;>try subst hsp)) | refine ⟨_,_,gp (D6 C _ d [9] (by assumption) (by decide) (by assumption)),?_⟩ | refine ⟨_,_,gp (y7 C h d hr1 (by omega)),?_⟩ | refine ⟨_,_,gp (hx),?_⟩ | refine ⟨_,_,gp (kk),?_⟩ | refine ⟨_,_,gp (kv),?_⟩ | refine ⟨_,_,(by rw [b4j (f:=m6) (l:=(cellAt h d).keys) (n:=(List.map m6 (cellAt h d).keys).length) (by simp only [List.length_map]) (by simp only [List.length_map];exact hik),b4j (f:=m6) (l:=(cellAt h d).v3) (n:=(List.map m6 (cellAt h d).v3).length) (by simp only [List.length_map]) (by simp only [List.length_map];exact hiv)];exact gp hw),?_⟩ | refine sD (b7e (i:=i) (j:=i+1) (by rfl) (by rfl) (by rfl) hwi (by rfl) (by omega) (by simp only [List.length_map];omega) (by rfl)) ?_ | fail)
 all_goals (conv=>whnf)
 all_goals exact PV.le.refl _
end Go.Ab.Td
