/- A part of the proof: the texts TdArg, TdFw, TdAl, TdAk, TdW11, TdHa, TdLr, TdSm, TdRm. Under: nothing. -/
import Derived.Test.YtomfaadmmchdcaaGreatDoorG20
import Derived.Test.YtomfaadmmchdcaaGreatDoorG05
import Derived.Test.YtomfaadmmchdcaaGreatDoorG23
import Derived.Test.YtomfaadmmchdcaaGreatDoorG22
import Derived.Test.YtomfaadmmchdcaaGreatDoorG07
import Derived.KernelRfl
set_option linter.unusedVariables false
namespace Go.Ab.Td
set_option maxRecDepth 100000
set_option maxRecDepth 100000
open Go Go.Ab Go.ChangeShapes
def a5T:List Ty:=[.int .u8,.int .u8,.int .u8,.int .i32,.str]
def b4l:List Ty:=[.sl a5T,.sl a5T,.sl [.int .u8]]
theorem c2i {n:Int} (h:(Lit.int .u8 n).wf=true):0≤n∧n<256:=by
 simp only [Lit.wf,Bool.and_eq_true,IntKind.min,IntKind.max,IntKind.signed,IntKind.bits] at h
 simp at h
 omega
theorem c4u {n:Int} (h:(Lit.int .i32 n).wf=true): -2147483648≤n∧n≤2147483647:=by
 simp only [Lit.wf,Bool.and_eq_true,IntKind.min,IntKind.max,IntKind.signed,IntKind.bits] at h
 simp at h
 omega
def b3W (qs:List PV) (ts:List Ty):Prop:=qs.length=ts.length∧∀ (j:Nat) (q:PV) (t:Ty),qs[j]?=some q→ts[j]?=some t→Has t q
theorem b3W.split {qs:List PV} {ts r:List Ty} (h:b3W qs (ts++r)):∃ a b,qs=a++b∧b3W a ts∧b3W b r:=by
 obtain ⟨hl,h⟩:=h
 simp only [List.length_append] at hl
 refine ⟨qs.take ts.length,qs.drop ts.length,(List.take_append_drop _ _).symm,⟨by simp;omega,fun j q t hq ht=>?_⟩,⟨by simp;omega,fun j q t hq ht=>?_⟩⟩
 ·have hj:j<ts.length:=(List.getElem?_eq_some_iff.1 ht).1
  rw [List.getElem?_take_of_lt hj] at hq
  exact h j q t hq (by rw [List.getElem?_append_left hj];exact ht)
 ·rw [List.getElem?_drop] at hq
  exact h _ q t hq (by rw [List.getElem?_append_right (by omega),Nat.add_sub_cancel_left];exact ht)
structure Wd where
 K:Int
 A:Int
 B:Int
 N:Int
 S:List UInt8
 hA:0≤A∧A<256
 hB:0≤B∧B<256
 hN: -2147483648≤N∧N≤2147483647
def Wd.row (w:Wd):List PV:=[.int .u8 w.K,.int .u8 w.A,.int .u8 w.B,.int .i32 w.N,.str w.S]
theorem b7E {qs:List PV} (h:b3W qs a5T):∃ w:Wd,qs=w.row:=by
 obtain ⟨hl,h⟩:=h
 match qs,hl with
 | [a,b,c,d,e],_=>
   have k0:=h 0 _ _ rfl rfl
   have k1:=h 1 _ _ rfl rfl
   have k2:=h 2 _ _ rfl rfl
   have k3:=h 3 _ _ rfl rfl
   have k4:=h 4 _ _ rfl rfl
   cases k0 with
   | int w0=>
   cases k1 with
   | int w1=>
   cases k2 with
   | int w2=>
   cases k3 with
   | int w3=>
   cases k4 with
   | str w4=>exact ⟨⟨_,_,_,_,_,c2i w1,c2i w2,c4u w3⟩,rfl⟩
theorem hasWd3 {p:PV} (h:a9J (true,b5b a5T 3) p):∃ a b c:Wd,p= .agg (a.row++(b.row++c.row)):=by
 obtain ⟨qs,e,hl,h⟩:=h
 simp only [a8K] at e
 subst e
 obtain ⟨a,q,rfl,h1,h2⟩:=b3W.split ⟨hl,h⟩
 obtain ⟨b,q,rfl,g2,h3⟩:=b3W.split h2
 obtain ⟨c,q,rfl,g3,h4⟩:=b3W.split h3
 obtain ⟨a,rfl⟩:=b7E h1
 obtain ⟨b,rfl⟩:=b7E g2
 obtain ⟨c,rfl⟩:=b7E g3
 match q,h4.1 with
 | [],_=>exact ⟨a,b,c,by simp⟩
end Go.Ab.Td
namespace Go.Ab.Td
set_option maxRecDepth 100000
open Go Go.Ab
variable {P:Program}
set_option linter.unusedSimpArgs false
attribute [local irreducible] e9
end Go.Ab.Td
namespace Go.Ab.Td
set_option maxRecDepth 100000
open Go Go.Ab
end Go.Ab.Td
namespace Go.Ab.Td
set_option maxRecDepth 100000
set_option maxRecDepth 100000
open Go Go.Ab
theorem b6S {o:Ob} (hr:o.right) (hk:o.kind=3∨o.kind=4):o=⟨o.kind,o.exec,o.n,[],0,0,0⟩∧ -2147483648≤o.n∧o.n≤2147483648:=by
 obtain ⟨a,b,c,d,e,f⟩:=b8Y hr hk
 have e2:o.name=[]:=List.length_eq_zero_iff.1 (by omega)
 refine ⟨?_,a,b⟩
 cases o;simp_all
theorem tdm {n:Int} (h:n.tmod 65536=0):n.tdiv 65536*65536=n:=by
 have:=Int.mul_tdiv_add_tmod n 65536
 omega
end Go.Ab.Td
namespace Go.Ab.Td.TdW11
set_option maxRecDepth 100000
set_option maxRecDepth 100000
open Go Go.Ab Go.Ab.Td
variable {P:Program}
set_option linter.unusedSimpArgs false
def b3n:TF:=(.leaf L3 K7)
def ext (_:Nat):Option a2A:=none
theorem a7W (C:Laid P):S9 P L3 K7=true:=by
 unfold S9
 rw [b0f C]
 kernel_rfl
theorem c2r (C:Laid P):b3n.all (S9 P)=true:=by simp only [b3n,TF.all,a7W C,Bool.and_self]
theorem b5l:a3H P G fun g=>(ext g).map a6c:=by
 intro g h hg
 cases hg
theorem a9m:∀ g ps own r,kn0 g ps=some (own,r)→l3 P G g ps own r:=fun _ _ _ _ h=>by cases h
end Go.Ab.Td.TdW11
namespace Go.Ab.Td
set_option maxRecDepth 100000
open Go Go.Ab
variable {P:Program}
set_option linter.unusedSimpArgs false
attribute [local irreducible] e9
end Go.Ab.Td
namespace Go.Ab.Td
set_option maxRecDepth 100000
open Go Go.Ab
variable {P:Program}
set_option linter.unusedSimpArgs false
attribute [local irreducible] e9
end Go.Ab.Td
namespace Go.Ab.Td
set_option maxRecDepth 100000
set_option maxRecDepth 100000
open Go Go.Ab
variable {P:Program}
set_option linter.unusedSimpArgs false
attribute [local irreducible] e9
theorem Cl.ext' (a b:Cl):(a=b)=(a.kind=b.kind∧a.bytes=b.bytes∧a.items=b.items∧a.keys=b.keys∧a.B2=b.B2∧a.max=b.max∧a.at'=b.at'):=by
 cases a;cases b;simp
theorem a9D {n:Nat} (h:n≤1000000):n<2 ^ 62:=by omega
def c4g (c:Cl):Prop:=c.keys.length<2 ^ 62∧c.B2.length<2 ^ 62∧c.items.length<2 ^ 62
def big (h:List Cl):Prop:=h.length<2 ^ 62∧∀ c ∈ h,c4g c
theorem b6X {c:Cl} (h:c.small):c4g c:=⟨a9D h.1,a9D h.2.1,a9D h.2.2.1⟩
theorem b9d {h:List Cl} (hs:small h):big h:=⟨a9D hs.1,fun c hc=>b6X (hs.2 c hc)⟩
set_option maxHeartbeats 1000000 in
theorem a3W (C:Laid P) (a b:Cl) (ha:c4g a):l3 P G E4 [aC a,aC b] [] (.bool (tt (a=b))):=by
 refine k8 C (a1A C) rfl ?_
 obtain ⟨h1,h2,h3⟩:=ha
 have he:=Cl.ext' a b
 repeat' ((conv=>whnf);first | (with_reducible refine sC (by kernel_rfl) ?_) | ((first | (with_reducible first | refine sB ?_ | refine z7 ?_ | refine z8 ?_) | refine sP (by rfl) ?_);first | refine oT ?_ | refine oF ?_ | (refine Or.inr (Or.inr ⟨fun hsp=>?_,fun hsp=>?_⟩) <;>(try simp only [nm,List.length_map] at hsp) <;>try subst hsp)) | refine ⟨_,_,I2 C a.items b.items (by assumption),?_⟩ | refine ⟨_,_,I2 C a.keys b.keys (by assumption),?_⟩ | refine ⟨_,_,I2 C a.B2 b.B2 (by assumption),?_⟩ | fail)
 all_goals (conv=>whnf)
 all_goals (first | (with_reducible refine A9 ?_) | (with_reducible refine z9 ?_) | (refine A8 ?_;try simp (disch:=omega) only [nm,wrap_small])) <;>(grind)
set_option maxHeartbeats 1000000 in
theorem a7J (C:Laid P) (l1 l2:List Cl) (hs:big l1):l3 P G O1 [.sl 7 (List.map j8 l1),.sl 7 (List.map j8 l2)] [] (.bool (tt (l1=l2))):=by
 refine k8 C (a5E C) rfl ?_
 obtain ⟨hl,hs1⟩:=hs
 repeat' ((conv=>whnf);first | (with_reducible refine sC (by kernel_rfl) ?_) | ((first | (with_reducible first | refine sB ?_ | refine z7 ?_ | refine z8 ?_) | refine sP (by rfl) ?_);first | refine oT ?_ | refine oF ?_ | (refine Or.inr (Or.inr ⟨fun hsp=>?_,fun hsp=>?_⟩) <;>(try simp only [nm,List.length_map] at hsp) <;>try subst hsp)) | fail)
 all_goals (conv=>whnf)
 all_goals try (exact z9 (by intro e;subst e;simp_all))
 intro X hX hW
 refine a3T hX (fun st (a:Nat)=>st.upd [(5,.pv (pI (a:Int)))] []) (fun a m=>a+m=l1.length∧(l1.length=l2.length∧((l1=l2)=(l1.drop a=l2.drop a)))) 0 l1.length (by (conv=>whnf);first | done | rfl) (by simp;omega) ?_
 intro m i ih hI
 rcases a3I l1 i with ⟨x,hlt,hx⟩ | hge
 ·have hrow:=K4 (f:=j8) hx
  have hd:=a5r hx
  have hI2:=hI.2
  rw [hd] at hI2
  obtain ⟨y,hy⟩:∃ y,l2[i]?=some y:=⟨_,List.getElem?_eq_getElem (by omega)⟩
  have hrow2:=K4 (f:=j8) hy
  have hd2:=a5r hy
  rw [hd2,List.cons.injEq] at hI2
  have hxs:=hs1 x (List.mem_of_getElem? hx)
  repeat' ((conv=>whnf);first | (with_reducible refine sC (by kernel_rfl) ?_) | ((first | (with_reducible first | refine sB ?_ | refine z7 ?_ | refine z8 ?_) | refine sP (by rfl) ?_);first | refine oT ?_ | refine oF ?_ | (refine Or.inr (Or.inr ⟨fun hsp=>?_,fun hsp=>?_⟩) <;>(try simp only [nm,List.length_map] at hsp) <;>try subst hsp)) | refine ⟨_,_,a3W C x y hxs,?_⟩ | refine sS (e7 (by rfl) (by rfl) (by omega) hrow) ?_ | refine sS (e7 (by rfl) (by rfl) (by omega) hrow2) ?_ | fail)
  all_goals (conv=>whnf)
  all_goals first
   | (refine ih (m - 1) (i+1) _ (by omega) ⟨by (try dsimp only);omega,?_⟩ (by (conv=>whnf);first | done | rfl | (simp (disch:=omega) only [P9])))
   | (with_reducible first | refine l0 ?_ | refine A9 ?_ | refine z9 ?_)
   | (refine A8 ?_;simp only [nm])
   | refine le_of_eq ?_
  all_goals (first | (have hd2:l2.drop i=[]:=List.drop_eq_nil_of_le (by omega);grind) | grind)
 ·have hd:l1.drop i=[]:=List.drop_eq_nil_of_le hge
  have hI2:=hI.2
  rw [hd] at hI2
  repeat' ((conv=>whnf);first | (with_reducible refine sC (by kernel_rfl) ?_) | ((first | (with_reducible first | refine sB ?_ | refine z7 ?_ | refine z8 ?_) | refine sP (by rfl) ?_);first | refine oT ?_ | refine oF ?_ | (refine Or.inr (Or.inr ⟨fun hsp=>?_,fun hsp=>?_⟩) <;>(try simp only [nm,List.length_map] at hsp) <;>try subst hsp)) | refine ⟨_,_,a3W C x y hxs,?_⟩ | fail)
  all_goals (conv=>whnf)
  all_goals first
   | (with_reducible first | refine l0 ?_ | refine A9 ?_ | refine z9 ?_)
   | (refine A8 ?_;simp only [nm])
   | refine le_of_eq ?_
  all_goals (first | (have hd2:l2.drop i=[]:=List.drop_eq_nil_of_le (by omega);grind) | grind)
end Go.Ab.Td
namespace Go.Ab.Td
set_option maxRecDepth 100000
set_option maxRecDepth 100000
open Go Go.Ab
variable {P:Program}
set_option linter.unusedSimpArgs false
attribute [local irreducible] e9 c2x
def zeroO:List PV:=[.int .i64 0,.bool false,.int .i64 0,.str [],.int .i64 0,.int .i64 0,.int .i64 0]
def GP:Gl:=⟨G.gl,fun g=>match Nat.beq g y9 with | true=>some (deletePrim 7 zeroO) | false=>none⟩
theorem del_eq:J9=deleteC 7 64 zeroO:=rfl
theorem gp_prim (C:Laid P):∀ g p,GP.a9v g=some p→c2o P g p:=by
 intro g p hg
 simp only [GP] at hg
 split at hg
 ·rename_i hb
  have:=Nat.eq_of_beq_eq_true hb
  subst this
  cases hg
  exact delete_ok C.mixed (bytes:=64) (by rw [← del_eq];exact a2x C)
 ·cases hg
theorem gp {g:Nat} {ps:List PV} {own:Own} {r:PV} (h:l3 P G g ps own r):l3 P GP g ps own r:=by
 intro w I vs hb hg ha
 exact h w I vs hb ⟨hg.a0P,fun _ _ h=>by cases h⟩ ha
theorem pg (C:Laid P) {g:Nat} {ps:List PV} {own:Own} {r:PV} (h:l3 P GP g ps own r):l3 P G g ps own r:=by
 intro w I vs hb hg ha
 exact h w I vs hb ⟨hg.a0P,gp_prim C⟩ ha
theorem gp_fn (C:Laid P) {g:Nat} {c:n6} {ps:List PV} {r:PV} (hk:d8 P g c=true) (hl:ps.length=c.nparams) (h:fnV GP (l3 P GP) noX noT noT 0 c ps r):l3 P GP g ps [] r:=
 b3I C.mixed hk (fun _ _ h=>by cases h) (fun _ _ h=>by cases h) (fun _ _ h=>by cases h) hl h
theorem ok_clone (C:Laid P) (x:Ob) (l:List Ob) (hl:l.length≤1000000):l3 P G u3 [.sl 7 (List.map i4 (x::l))] [(0,0)] (.sl 7 (List.map i4 (x::l))):=by
 refine b8O C.mixed (a0f C) (ext:=noX) (fun _ _ h=>by cases h) (tab:=noT) (x9:=noT) (d:=0) (fun _ _ h=>by cases h) (fun _ _ h=>by cases h) rfl ?_
 repeat' ((conv=>whnf);first | (with_reducible refine sC (by kernel_rfl) ?_) | ((first | (with_reducible first | refine sB ?_ | refine z7 ?_ | refine z8 ?_) | refine sP (by rfl) ?_);first | refine oT ?_ | refine oF ?_ | (refine Or.inr (Or.inr ⟨fun hsp=>?_,fun hsp=>?_⟩) <;>(try simp only [nm] at hsp) <;>try subst hsp)) | refine sS (i9 (f:=i4) (l:=([]:List Ob)) (x':=x::l) (by rfl) (by rfl) (by rfl) (by first | exact d4 | exact b8 | exact b9 (by rfl) (by rfl)) (by rfl) (by simp only [List.length_cons,List.length_nil];omega)) ?_ | fail)
 all_goals (conv=>whnf)
 refine ⟨20,[],?_,?_⟩
 ·show some [AV.own 20 0 (([]:List Ob).length+(x::l).length)]=_
  simp
 ·rfl
theorem c4w {k:Ob} {l:List Ob} (h:0≤i3 k 0 l):∃ i:Nat,i3 k 0 l=(i:Int)∧i<l.length:=by
 rcases b6z k l 0 with h1 | ⟨h1,h2⟩
 ·omega
 ·exact ⟨(i3 k 0 l).toNat,by omega,by omega⟩
def a6a (c:Cl) (i:Nat):Cl:={c with keys:=c.keys.eraseIdx i,B2:=c.B2.eraseIdx i}
set_option maxHeartbeats 1000000 in
theorem ok_heap_Remove_no (C:Laid P) (h:List Cl) (d k:Ob) (hs:small h) (hd:d.n<9223372036854775808) (hv:U0 h d [9]=0) (hi:i3 k 0 (cellAt h d).keys<0∨(cellAt h d).B2.length≤i3 k 0 (cellAt h d).keys):l3 P G P3 [.sl 7 (List.map j8 h),aO d,aO k] [] (.o0 [.sl 7 (List.map j8 h),pI 0]):=by
 refine k8 C (a7B C) rfl ?_
 obtain ⟨⟨hr1,hr2⟩,⟨hf1,hf2,hf3⟩,hkk,hcc⟩:=a3x hv
 have hk9:d.kind=9:=by simpa using hkk
 obtain ⟨hc3,hc4,hc5⟩:=hcc.resolve_left (by rw [hk9];decide)
 obtain ⟨hm1,hm2,hm3,hm4⟩:=a9C hs d
 have hh:=hs.1
 repeat' ((conv=>whnf);first | (with_reducible refine sC (by kernel_rfl) ?_) | ((first | (with_reducible first | refine sB ?_ | refine z7 ?_ | refine z8 ?_) | refine sP (by rfl) ?_);first | refine oT ?_ | refine oF ?_ | (refine Or.inr (Or.inr ⟨fun hsp=>?_,fun hsp=>?_⟩) <;>(try simp only [nm,List.length_map] at hsp) <;>try subst hsp)) | refine ⟨_,_,a0W C _ d [9] (by assumption) (by decide) (by assumption),?_⟩ | refine ⟨_,_,R7 C h d hr1 (by omega),?_⟩ | refine ⟨_,_,X0 C (cellAt h d).keys k (by omega),?_⟩ | fail)
 all_goals (conv=>whnf)
 all_goals (first | exact PV.le.refl _ | (exfalso;omega))
set_option maxHeartbeats 2000000 in
theorem ok_heap_Remove_gp (C:Laid P) (h:List Cl) (d k:Ob) (hs:small h) (hd:d.n<9223372036854775808) (hv:U0 h d [9]=0) (i:Nat) (hi:i3 k 0 (cellAt h d).keys=(i:Int)) (hik:i<(cellAt h d).keys.length) (hiv:i<(cellAt h d).B2.length):l3 P GP P3 [.sl 7 (List.map j8 h),aO d,aO k] [] (.o0 [.sl 7 (List.map j8 (h.set d.ref.toNat (a6a (cellAt h d) i))),pI 0]):=by
 refine gp_fn C (a7B C) rfl ?_
 obtain ⟨⟨hr1,hr2⟩,⟨hf1,hf2,hf3⟩,hkk,hcc⟩:=a3x hv
 have hk9:d.kind=9:=by simpa using hkk
 obtain ⟨hc3,hc4,hc5⟩:=hcc.resolve_left (by rw [hk9];decide)
 obtain ⟨hm1,hm2,hm3,hm4⟩:=a9C hs d
 have hh:=hs.1
 have hwi:IntKind.i64.wrap ((i:Int)+1)=((i+1:Nat):Int):=by rw [wrap_small (by omega) (by omega)];omega
 have hx:=X0 C (cellAt h d).keys k (by omega)
 rw [hi] at hx
 have hw:=a9s C h d (a6a (cellAt h d) i) hr1 (by omega) hh
 have hck:∃ x l,(cellAt h d).keys=x::l:=by
  cases hq:(cellAt h d).keys with
  | nil=>rw [hq] at hik;exact absurd hik (by simp)
  | cons x l=>exact ⟨x,l,rfl⟩
 have hcv:∃ x l,(cellAt h d).B2=x::l:=by
  cases hq:(cellAt h d).B2 with
  | nil=>rw [hq] at hiv;exact absurd hiv (by simp)
  | cons x l=>exact ⟨x,l,rfl⟩
 have kk:l3 P G u3 [.sl 7 (List.map i4 (cellAt h d).keys)] [(0,0)] (.sl 7 (List.map i4 (cellAt h d).keys)):=by
  obtain ⟨x,l,e⟩:=hck
  rw [e] at hm1
  rw [e];exact ok_clone C x l (by simp at hm1;omega)
 have kv:l3 P G u3 [.sl 7 (List.map i4 (cellAt h d).B2)] [(0,0)] (.sl 7 (List.map i4 (cellAt h d).B2)):=by
  obtain ⟨x,l,e⟩:=hcv
  rw [e] at hm2
  rw [e];exact ok_clone C x l (by simp at hm2;omega)
 repeat' ((conv=>whnf);first | (with_reducible refine sC (by kernel_rfl) ?_) | ((first | (with_reducible first | refine sB ?_ | refine z7 ?_ | refine z8 ?_) | refine sP (by rfl) ?_);first | refine oT ?_ | refine oF ?_ | (refine Or.inr (Or.inr ⟨fun hsp=>?_,fun hsp=>?_⟩) <;>(try simp only [nm,List.length_map] at hsp) <;>try subst hsp)) | refine ⟨_,_,gp (a0W C _ d [9] (by assumption) (by decide) (by assumption)),?_⟩ | refine ⟨_,_,gp (R7 C h d hr1 (by omega)),?_⟩ | refine ⟨_,_,gp (hx),?_⟩ | refine ⟨_,_,gp (kk),?_⟩ | refine ⟨_,_,gp (kv),?_⟩ | refine ⟨_,_,(by rw [del_rows (f:=i4) (l:=(cellAt h d).keys) (n:=(List.map i4 (cellAt h d).keys).length) (by simp only [List.length_map]) (by simp only [List.length_map];exact hik),del_rows (f:=i4) (l:=(cellAt h d).B2) (n:=(List.map i4 (cellAt h d).B2).length) (by simp only [List.length_map]) (by simp only [List.length_map];exact hiv)];exact gp hw),?_⟩ | refine sD (delete_at (i:=i) (j:=i+1) (by rfl) (by rfl) (by rfl) hwi (by rfl) (by omega) (by simp only [List.length_map];omega) (by rfl)) ?_ | fail)
 all_goals (conv=>whnf)
 all_goals exact PV.le.refl _
end Go.Ab.Td
