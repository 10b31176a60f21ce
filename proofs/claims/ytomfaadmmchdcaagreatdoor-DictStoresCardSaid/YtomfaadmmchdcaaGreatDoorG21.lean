/- A part of the proof: the texts TdArg, TdFw, TdAl, TdAk, TdW11, TdHa, TdLr, TdSm, TdRm, TdHi. Under: nothing. -/
import Derived.Test.YtomfaadmmchdcaaGreatDoorG18
import Derived.Test.YtomfaadmmchdcaaGreatDoorG05
import Derived.Test.YtomfaadmmchdcaaGreatDoorG20
import Derived.Test.YtomfaadmmchdcaaGreatDoorG19
import Derived.Test.YtomfaadmmchdcaaGreatDoorG07
import Derived.KernelRfl
import Derived.Test.YtomfaadmmchdcaaGreatDoorG17
set_option linter.unusedVariables false
namespace Go.Ab.Td
set_option maxRecDepth 100000
set_option maxRecDepth 100000
open Go Go.Ab Go.ChangeShapes
def a5T:List Ty:=[.int .u8,.int .u8,.int .u8,.int .i32,.str]
def b4l:List Ty:=[.sl a5T,.sl a5T,.sl [.int .u8]]
theorem c2i {n:Int} (h:(Lit.int .u8 n).wf=true):0≤n∧n<256:=by
 simp only [Lit.wf,Bool.and_eq_true,IntKind.min,IntKind.max,IntKind.signed,IntKind.bits] at h
 simp at h
 omega
theorem c4u {n:Int} (h:(Lit.int .i32 n).wf=true): -2147483648≤n∧n≤2147483647:=by
 simp only [Lit.wf,Bool.and_eq_true,IntKind.min,IntKind.max,IntKind.signed,IntKind.bits] at h
 simp at h
 omega
theorem c4v {n:Int} (h:(Lit.int .i64 n).wf=true): -9223372036854775808≤n∧n<9223372036854775808:=by
 simp only [Lit.wf,Bool.and_eq_true,IntKind.min,IntKind.max,IntKind.signed,IntKind.bits] at h
 simp at h
 omega
def b3W (qs:List PV) (ts:List Ty):Prop:=qs.length=ts.length∧∀ (j:Nat) (q:PV) (t:Ty),qs[j]?=some q→ts[j]?=some t→Has t q
theorem b3W.split {qs:List PV} {ts r:List Ty} (h:b3W qs (ts++r)):∃ a b,qs=a++b∧b3W a ts∧b3W b r:=by
 obtain ⟨hl,h⟩:=h
 simp only [List.length_append] at hl
 refine ⟨qs.take ts.length,qs.drop ts.length,(List.take_append_drop _ _).symm,⟨by simp;omega,fun j q t hq ht=>?_⟩,⟨by simp;omega,fun j q t hq ht=>?_⟩⟩
 ·have hj:j<ts.length:=(List.getElem?_eq_some_iff.1 ht).1
  rw [List.getElem?_take_of_lt hj] at hq
  exact h j q t hq (by rw [List.getElem?_append_left hj];exact ht)
 ·rw [List.getElem?_drop] at hq
  exact h _ q t hq (by rw [List.getElem?_append_right (by omega),Nat.add_sub_cancel_left];exact ht)
structure Wd where
 K:Int
 A:Int
 B:Int
 N:Int
 S:List UInt8
 hA:0≤A∧A<256
 hB:0≤B∧B<256
 hN: -2147483648≤N∧N≤2147483647
def Wd.row (w:Wd):List PV:=[.int .u8 w.K,.int .u8 w.A,.int .u8 w.B,.int .i32 w.N,.str w.S]
theorem b7E {qs:List PV} (h:b3W qs a5T):∃ w:Wd,qs=w.row:=by
 obtain ⟨hl,h⟩:=h
 match qs,hl with
 | [a,b,c,d,e],_=>
   have k0:=h 0 _ _ rfl rfl
   have k1:=h 1 _ _ rfl rfl
   have k2:=h 2 _ _ rfl rfl
   have k3:=h 3 _ _ rfl rfl
   have k4:=h 4 _ _ rfl rfl
   cases k0 with
   | int w0=>
   cases k1 with
   | int w1=>
   cases k2 with
   | int w2=>
   cases k3 with
   | int w3=>
   cases k4 with
   | str w4=>exact ⟨⟨_,_,_,_,_,c2i w1,c2i w2,c4u w3⟩,rfl⟩
theorem c4r {p:PV} (h:a9J (true,b5b a5T 2) p):∃ a b:Wd,p= .agg (a.row++b.row):=by
 obtain ⟨qs,e,hl,h⟩:=h
 simp only [a8K] at e
 subst e
 obtain ⟨a,q,rfl,h1,h2⟩:=b3W.split ⟨hl,h⟩
 obtain ⟨b,q,rfl,g2,h3⟩:=b3W.split h2
 obtain ⟨a,rfl⟩:=b7E h1
 obtain ⟨b,rfl⟩:=b7E g2
 match q,h3.1 with
 | [],_=>exact ⟨a,b,by simp⟩
end Go.Ab.Td
namespace Go.Ab.Td
set_option maxRecDepth 100000
open Go Go.Ab
variable {P:Program}
set_option linter.unusedSimpArgs false
attribute [local irreducible] e9
end Go.Ab.Td
namespace Go.Ab.Td
set_option maxRecDepth 100000
open Go Go.Ab
end Go.Ab.Td
namespace Go.Ab.Td
set_option maxRecDepth 100000
set_option maxRecDepth 100000
open Go Go.Ab
theorem b6S {o:Ob} (hr:o.right) (hk:o.kind=3∨o.kind=4):o=⟨o.kind,o.exec,o.n,[],0,0,0⟩∧ -2147483648≤o.n∧o.n≤2147483648:=by
 obtain ⟨a,b,c,d,e,f⟩:=b8Y hr hk
 have e2:o.name=[]:=List.length_eq_zero_iff.1 (by omega)
 refine ⟨?_,a,b⟩
 cases o;simp_all
theorem tdm {n:Int} (h:n.tmod 65536=0):n.tdiv 65536*65536=n:=by
 have:=Int.mul_tdiv_add_tmod n 65536
 omega
end Go.Ab.Td
namespace Go.Ab.Td.TdW11
set_option maxRecDepth 100000
set_option maxRecDepth 100000
open Go Go.Ab Go.Ab.Td
variable {P:Program}
set_option linter.unusedSimpArgs false
def b3n:TF:=(.leaf L3 K7)
def ext (_:Nat):Option a2A:=none
theorem a7W (C:Laid P):S9 P L3 K7=true:=by
 unfold S9
 rw [b0f C]
 kernel_rfl
theorem c2r (C:Laid P):b3n.all (S9 P)=true:=by simp only [b3n,TF.all,a7W C,Bool.and_self]
theorem b5l:a3H P G fun g=>(ext g).map a6c:=by
 intro g h hg
 cases hg
theorem a9m:∀ g ps own r,kn0 g ps=some (own,r)→l3 P G g ps own r:=fun _ _ _ _ h=>by cases h
end Go.Ab.Td.TdW11
namespace Go.Ab.Td
set_option maxRecDepth 100000
open Go Go.Ab
variable {P:Program}
set_option linter.unusedSimpArgs false
attribute [local irreducible] e9
end Go.Ab.Td
namespace Go.Ab.Td
set_option maxRecDepth 100000
open Go Go.Ab
variable {P:Program}
set_option linter.unusedSimpArgs false
attribute [local irreducible] e9
end Go.Ab.Td
namespace Go.Ab.Td
set_option maxRecDepth 100000
set_option maxRecDepth 100000
open Go Go.Ab
variable {P:Program}
set_option linter.unusedSimpArgs false
attribute [local irreducible] e9
theorem Cl.ext' (a b:Cl):(a=b)=(a.kind=b.kind∧a.bytes=b.bytes∧a.items=b.items∧a.keys=b.keys∧a.B2=b.B2∧a.max=b.max∧a.at'=b.at'):=by
 cases a;cases b;simp
theorem a9D {n:Nat} (h:n≤1000000):n<2 ^ 62:=by omega
def c4g (c:Cl):Prop:=c.keys.length<2 ^ 62∧c.B2.length<2 ^ 62∧c.items.length<2 ^ 62
def big (h:List Cl):Prop:=h.length<2 ^ 62∧∀ c ∈ h,c4g c
theorem b6X {c:Cl} (h:c.small):c4g c:=⟨a9D h.1,a9D h.2.1,a9D h.2.2.1⟩
theorem b9d {h:List Cl} (hs:small h):big h:=⟨a9D hs.1,fun c hc=>b6X (hs.2 c hc)⟩
set_option maxHeartbeats 1000000 in
theorem a3W (C:Laid P) (a b:Cl) (ha:c4g a):l3 P G E4 [aC a,aC b] [] (.bool (tt (a=b))):=by
 refine k8 C (a1A C) rfl ?_
 obtain ⟨h1,h2,h3⟩:=ha
 have he:=Cl.ext' a b
 repeat' ((conv=>whnf);first | (with_reducible refine sC (by kernel_rfl) ?_) | ((first | (with_reducible first | refine sB ?_ | refine z7 ?_ | refine z8 ?_) | refine sP (by rfl) ?_);first | refine oT ?_ | refine oF ?_ | (refine Or.inr (Or.inr ⟨fun hsp=>?_,fun hsp=>?_⟩) <;>(try simp only [nm,List.length_map] at hsp) <;>try subst hsp)) | refine ⟨_,_,I2 C a.items b.items (by assumption),?_⟩ | refine ⟨_,_,I2 C a.keys b.keys (by assumption),?_⟩ | refine ⟨_,_,I2 C a.B2 b.B2 (by assumption),?_⟩ | fail)
 all_goals (conv=>whnf)
 all_goals (first | (with_reducible refine A9 ?_) | (with_reducible refine z9 ?_) | (refine A8 ?_;try simp (disch:=omega) only [nm,wrap_small])) <;>(grind)
set_option maxHeartbeats 1000000 in
theorem a7J (C:Laid P) (l1 l2:List Cl) (hs:big l1):l3 P G O1 [.sl 7 (List.map j8 l1),.sl 7 (List.map j8 l2)] [] (.bool (tt (l1=l2))):=by
 refine k8 C (a5E C) rfl ?_
 obtain ⟨hl,hs1⟩:=hs
 repeat' ((conv=>whnf);first | (with_reducible refine sC (by kernel_rfl) ?_) | ((first | (with_reducible first | refine sB ?_ | refine z7 ?_ | refine z8 ?_) | refine sP (by rfl) ?_);first | refine oT ?_ | refine oF ?_ | (refine Or.inr (Or.inr ⟨fun hsp=>?_,fun hsp=>?_⟩) <;>(try simp only [nm,List.length_map] at hsp) <;>try subst hsp)) | fail)
 all_goals (conv=>whnf)
 all_goals try (exact z9 (by intro e;subst e;simp_all))
 intro X hX hW
 refine a3T hX (fun st (a:Nat)=>st.upd [(5,.pv (pI (a:Int)))] []) (fun a m=>a+m=l1.length∧(l1.length=l2.length∧((l1=l2)=(l1.drop a=l2.drop a)))) 0 l1.length (by (conv=>whnf);first | done | rfl) (by simp;omega) ?_
 intro m i ih hI
 rcases a3I l1 i with ⟨x,hlt,hx⟩ | hge
 ·have hrow:=K4 (f:=j8) hx
  have hd:=a5r hx
  have hI2:=hI.2
  rw [hd] at hI2
  obtain ⟨y,hy⟩:∃ y,l2[i]?=some y:=⟨_,List.getElem?_eq_getElem (by omega)⟩
  have hrow2:=K4 (f:=j8) hy
  have hd2:=a5r hy
  rw [hd2,List.cons.injEq] at hI2
  have hxs:=hs1 x (List.mem_of_getElem? hx)
  repeat' ((conv=>whnf);first | (with_reducible refine sC (by kernel_rfl) ?_) | ((first | (with_reducible first | refine sB ?_ | refine z7 ?_ | refine z8 ?_) | refine sP (by rfl) ?_);first | refine oT ?_ | refine oF ?_ | (refine Or.inr (Or.inr ⟨fun hsp=>?_,fun hsp=>?_⟩) <;>(try simp only [nm,List.length_map] at hsp) <;>try subst hsp)) | refine ⟨_,_,a3W C x y hxs,?_⟩ | refine sS (e7 (by rfl) (by rfl) (by omega) hrow) ?_ | refine sS (e7 (by rfl) (by rfl) (by omega) hrow2) ?_ | fail)
  all_goals (conv=>whnf)
  all_goals first
   | (refine ih (m - 1) (i+1) _ (by omega) ⟨by (try dsimp only);omega,?_⟩ (by (conv=>whnf);first | done | rfl | (simp (disch:=omega) only [P9])))
   | (with_reducible first | refine l0 ?_ | refine A9 ?_ | refine z9 ?_)
   | (refine A8 ?_;simp only [nm])
   | refine le_of_eq ?_
  all_goals (first | (have hd2:l2.drop i=[]:=List.drop_eq_nil_of_le (by omega);grind) | grind)
 ·have hd:l1.drop i=[]:=List.drop_eq_nil_of_le hge
  have hI2:=hI.2
  rw [hd] at hI2
  repeat' ((conv=>whnf);first | (with_reducible refine sC (by kernel_rfl) ?_) | ((first | (with_reducible first | refine sB ?_ | refine z7 ?_ | refine z8 ?_) | refine sP (by rfl) ?_);first | refine oT ?_ | refine oF ?_ | (refine Or.inr (Or.inr ⟨fun hsp=>?_,fun hsp=>?_⟩) <;>(try simp only [nm,List.length_map] at hsp) <;>try subst hsp)) | refine ⟨_,_,a3W C x y hxs,?_⟩ | fail)
  all_goals (conv=>whnf)
  all_goals first
   | (with_reducible first | refine l0 ?_ | refine A9 ?_ | refine z9 ?_)
   | (refine A8 ?_;simp only [nm])
   | refine le_of_eq ?_
  all_goals (first | (have hd2:l2.drop i=[]:=List.drop_eq_nil_of_le (by omega);grind) | grind)
end Go.Ab.Td
namespace Go.Ab.Td
set_option maxRecDepth 100000
set_option maxRecDepth 100000
open Go Go.Ab
variable {P:Program}
set_option linter.unusedSimpArgs false
attribute [local irreducible] e9 c2x
theorem c4w {k:Ob} {l:List Ob} (h:0≤i3 k 0 l):∃ i:Nat,i3 k 0 l=(i:Int)∧i<l.length:=by
 rcases b6z k l 0 with h1 | ⟨h1,h2⟩
 ·omega
 ·exact ⟨(i3 k 0 l).toNat,by omega,by omega⟩
def a6a (c:Cl) (i:Nat):Cl:={c with keys:=c.keys.eraseIdx i,B2:=c.B2.eraseIdx i}
end Go.Ab.Td
namespace Go.Ab.Td
set_option maxRecDepth 100000
set_option maxRecDepth 100000
open Go Go.Ab
structure HI (n:Nat) (h:List Cl):Prop where
 len:10≤h.length∧h.length≤20
 cat:h[4]?=some b4e
 b6u:∀ j:Nat,5≤j→j≤9→∃ c,h[j]?=some c∧c.kind=3
 sz:∀ c ∈ h,c.keys.length≤n∧c.B2.length≤n∧c.items.length≤1000∧c.bytes.length≤4000
 shape:∀ c ∈ h,(c.kind=1→c.items=[]∧c.bytes.length≤1000)∧(c.kind=2→c.bytes=[]∧c.items.length≤1000)
 B2:∀ c ∈ h,∀ o ∈ c.B2,o.n<9223372036854775808
theorem HI.small {n:Nat} {h:List Cl} (t:HI n h) (hn:n≤1000000):small h:=
 ⟨by have:=t.len;omega,fun c hc=>by obtain ⟨a,b,c,d⟩:=t.sz c hc;exact ⟨by omega,by omega,by omega,by omega⟩⟩
theorem b4P {l:List Ob} {m:Nat} (h:SlR (.sl 7 (l.map i4)) m):l.length≤1000:=by
 rcases h with ⟨h, -⟩ | ⟨rr,h,hl,hm, -⟩
 ·cases h
 ·simp only [PV.sl.injEq,true_and] at h
  subst h
  simp only [List.length_map] at hl
  omega
theorem a7l.lens {c:Cl} (h:a7l c):c.keys.length≤1000∧c.B2.length≤1000∧c.items.length≤1000∧c.bytes.length≤4000:=by
 obtain ⟨-, -,k,b,q1,q2,q3,mx,a,m1,m2,m3,he,hb,h1,h2,h3⟩:=h
 simp only [j8,List.cons.injEq,PV.int.injEq,PV.str.injEq,true_and] at he
 obtain ⟨-,e2,e3,e4,e5, -⟩:=he
 subst e2 e3 e4 e5
 exact ⟨b4P h2,b4P h3,b4P h1,hb.1⟩
theorem a2t.hi {h:List Cl} (t:a2t h):HI 1000 h:=by
 have hok:=t.ok
 have hl:=t.len
 obtain ⟨h4,h5,h10⟩:=c2B t
 exact ⟨⟨h10,hl⟩,h4,fun j a b=>⟨_,h5 j a b,rfl⟩,fun c hc=>(hok c hc).lens,fun c hc=>(hok c hc).shape,fun c hc=>(hok c hc).2.1⟩
theorem c2F {h:List Cl} {o:Ob} (hn:o.n<9223372036854775808) (hf:fits h o) (hk:(n4 h o).2=0):fits h (n4 h o).1∧n4 h (n4 h o).1=((n4 h o).1,0)∧(n4 h o).1.kind≠0∧(n4 h o).1.n<9223372036854775808:=by
 have nm:∀ s:List UInt8,s.length≤100→fits h (nmO s)∧n4 h (nmO s)=(nmO s,0)∧(nmO s).kind≠0∧(nmO s).n<9223372036854775808:=fun s hs=>⟨⟨(F2 s false).2 hs,fun hx=>absurd rfl hx⟩,c0q hs,by simp [nmO],by simp [nmO]⟩
 have pl:∀ a:Ob,fits h a→a.kind≠6→a.kind≠0→n4 h a=(a.key,0):=by
  intro a ha h6 h0
  unfold n4
  rw [if_neg (Classical.not_not.2 ha),if_neg h6,if_neg h0]
 by_cases h6:o.kind=6
 ·unfold n4 at hk ⊢
  rw [if_neg (Classical.not_not.2 hf),if_pos h6] at*
  by_cases hl:100<(sub h o).length
  ·rw [if_pos hl] at hk;cases hk
  ·rw [if_neg hl]
   have:=nm (sub h o) (by omega)
   unfold n4 at this
   exact this
 ·have h0:o.kind≠0:=by
   intro h0
   unfold n4 at hk
   rw [if_neg (Classical.not_not.2 hf),if_neg h6,if_pos h0] at hk
   cases hk
  rw [pl o hf h6 h0]
  dsimp only
  by_cases hr:o.kind=4∧o.n.tmod 65536=0
  ·have e:o.key=⟨3,false,o.n.tdiv 65536,[],0,0,0⟩:=by unfold Ob.key;rw [if_pos hr]
   obtain ⟨-,la,ua⟩:=b6S hf.1 (.inr hr.1)
   have hb:=b2H la ua
   have:=tdm hr.2
   have ff:fits h ⟨3,false,o.n.tdiv 65536,[],0,0,0⟩:=fits_int (by omega) (by omega) false
   rw [e]
   refine ⟨ff,?_,by simp,by dsimp only;omega⟩
   rw [pl _ ff (by simp) (by simp)]
   simp [Ob.key]
  ·have e:o.key={o with exec:=false}:=by unfold Ob.key;rw [if_neg hr]
   have ff:fits h {o with exec:=false}:=hf
   rw [e]
   refine ⟨ff,?_,h0,?_⟩
   ·rw [pl _ ff h6 h0]
    unfold Ob.key
    dsimp only
    rw [if_neg hr]
   ·exact hn
theorem b8T {c c':Cl} {k v:Ob} (hp:Y2 c k v=some c'):c'.kind=c.kind∧c'.bytes=c.bytes∧c'.items=c.items∧c'.keys.length≤c.keys.length+1∧c'.B2.length≤c.B2.length+1∧∀ o ∈ c'.B2,o ∈ c.B2∨o=v:=by
 unfold Y2 at hp
 split at hp
 ·cases hp
  refine ⟨rfl,rfl,rfl,by dsimp only;omega,by dsimp only;rw [List.length_set];omega,fun o ho=>?_⟩
  exact List.mem_or_eq_of_mem_set ho
 ·split at hp
  ·cases hp
  ·cases hp
   refine ⟨rfl,rfl,rfl,by dsimp only;rw [List.length_append];simp,by dsimp only;rw [List.length_append];simp,fun o ho=>?_⟩
   dsimp only at ho
   rcases List.mem_append.1 ho with h | h
   ·exact .inl h
   ·exact .inr (by simpa using h)
theorem HI.put {n:Nat} {h:List Cl} (t:HI n h) {j:Nat} (h5:5≤j) (h9:j≤9) {c c':Cl} (hc:h[j]?=some c) {k v:Ob} (hp:Y2 c k v=some c') (hv:v.n<9223372036854775808):HI (n+1) (h.set j c'):=by
 obtain ⟨p1,p2,p3,p4,p5,p6⟩:=b8T hp
 have hm:=List.mem_of_getElem? hc
 have hck:c.kind=3:=by
  obtain ⟨d,hd,hk⟩:=t.b6u j h5 h9
  rw [hc] at hd;cases hd;exact hk
 have mem:∀ x ∈ h.set j c',x ∈ h∨x=c':=fun x hx=>List.mem_or_eq_of_mem_set hx
 refine ⟨by rw [List.length_set];exact t.len,?_,fun i a b=>?_,fun x hx=>?_,fun x hx=>?_,fun x hx=>?_⟩
 ·rw [List.getElem?_set_ne (by omega)];exact t.cat
 ·by_cases hij:j=i
  ·subst hij
   rw [List.getElem?_set_self (by have:=(List.getElem?_eq_some_iff.1 hc).1;exact this)]
   exact ⟨c',rfl,by rw [p1];exact hck⟩
  ·rw [List.getElem?_set_ne hij];exact t.b6u i a b
 ·rcases mem x hx with hx | rfl
  ·obtain ⟨a,b,c,d⟩:=t.sz x hx;exact ⟨by omega,by omega,c,d⟩
  ·obtain ⟨a,b,cc,d⟩:=t.sz c hm
   exact ⟨by omega,by omega,by rw [p3];exact cc,by rw [p2];exact d⟩
 ·rcases mem x hx with hx | rfl
  ·exact t.shape x hx
  ·exact ⟨fun hk=>by omega,fun hk=>by omega⟩
 ·rcases mem x hx with hx | rfl
  ·exact t.B2 x hx
  ·intro o ho
   rcases p6 o ho with h | rfl
   ·exact t.B2 c hm o h
   ·exact hv
end Go.Ab.Td
