/- A part of the proof: the texts TdTy, TdW19, TdSf, TdRA, TdRB, TdRC, TdRD. Under: nothing. -/
import Derived.Test.YtngmifmcohmfmaaDoorG09
import Derived.Test.YtngmifmcohmfmaaDoorG07
import Derived.Test.YtngmifmcohmfmaaDoorG05
import Derived.KernelRfl
import Derived.Test.YtngmifmcohmfmaaDoorG08
set_option linter.unusedVariables false
namespace Go.Ab.Td
set_option maxRecDepth 100000
set_option maxRecDepth 100000
open Go Go.Ab
variable {P:Program}
theorem b9h {g:Nat} {ps:List PV} {p r:PV} (h:j6 P G g ps [] p) (hl:PV.le p r):j6 P G g ps [] r:=by
 intro w I vs hb hg ha
 obtain ⟨h1,h2⟩:=h w I vs hb hg ha
 refine ⟨h1,CallsIn.mono h2 fun e w' he=>?_⟩
 cases e with
 | returned v=>
   obtain ⟨I',a,b,c,d⟩:=he
   refine ⟨I',a,b,c,fun nm=>?_⟩
   obtain ⟨ι,e1,e2⟩:=d nm
   cases e2 with
   | pv hp=>exact ⟨ι,e1,.pv (hp.le hl)⟩
 | _=>exact he.elim
theorem c7U {r:List PV} (h:a2Q r):∃ o:Ob,r=g9 o∧o.n<9223372036854775808:=by
 obtain ⟨k,e,n,s,rf,o,l,hn,rfl⟩:=h
 exact ⟨⟨k,e,n,s,rf,o,l⟩,rfl,hn⟩
theorem c4D:∀ {rr:List (List PV)},(∀ x ∈ rr,a2Q x)→∃ l:List Ob,rr=l.map g9∧∀ o ∈ l,o.n<9223372036854775808
 | [],_=>⟨[],rfl,by simp⟩
 | r::rr,h=>by
   obtain ⟨o,rfl,hn⟩:=c7U (h r (by simp))
   obtain ⟨l,rfl,hl⟩:=c4D (rr:=rr) fun x hx=>h x (by simp [hx])
   refine ⟨o::l,rfl,?_⟩
   intro x hx
   rcases List.mem_cons.1 hx with rfl | hx
   ·exact hn
   ·exact hl x hx
def a7b (c:Cl):Prop:=c.small∧(∀ o ∈ c.A7,o.n<9223372036854775808)∧a2P (k9 c)
theorem b0m {l:List Ob} (h:l.length≤1000) (hn:∀ o ∈ l,o.n<9223372036854775808):SlR (.sl 7 (l.map g9)) l.length:=.inr ⟨_,rfl,by simp,h,fun x hx=>by
 obtain ⟨o,ho,rfl⟩:=List.mem_map.1 hx
 exact ⟨_,_,_,_,_,_,_,hn o ho,rfl⟩⟩
theorem a7b.shape {c:Cl} (h:a7b c):(c.kind=1→c.items=[]∧c.bytes.length≤1000)∧(c.kind=2→c.bytes=[]∧c.items.length≤1000):=by
 obtain ⟨-, -,k,b,q1,q2,q3,mx,a,m1,m2,m3,he,hb,h1,h2,h3⟩:=h
 simp only [k9,List.cons.injEq,PV.int.injEq,PV.str.injEq,true_and] at he
 obtain ⟨e1,e2,e3, -⟩:=he
 subst e1 e2 e3
 rcases h1 with ⟨h1, -⟩ | ⟨rr,h1,hl,hm, -⟩
 ·cases h1
 ·simp only [PV.sl.injEq,true_and] at h1
  subst h1
  simp only [List.length_map] at hl
  subst hl
  exact ⟨fun hk=>⟨List.eq_nil_of_length_eq_zero (hb.2.1 hk).2,(hb.2.1 hk).1⟩,fun hk=>⟨hb.2.2 hk,hm⟩⟩
def dct (k v:List Ob) (m:Int):Cl:=⟨3,[],[],k,v,m,0⟩
def opO (s:List UInt8):Ob:=⟨10,true,0,s,0,0,0⟩
def dO (n:Int):Ob:=⟨9,false,0,[],n,0,0⟩
def c4X:Cl:=dct (b7m.map nmO) [dO 5,dO 6,dO 7,dO 8,dO 9] 5
def a1e:List Cl:=[dct [nmO b3G,nmO b3H] [opO b3G,opO b3H] 200,dct [] [] 50,dct [] [] 30,dct [] [] 12,c4X,dct [] [] 10,dct [] [] 10,dct [] [] 10,dct [] [] 10,dct [] [] 10]
theorem b5W (m:Int):K3 (R1 (.emp 7) (.emp 7) m) (k9 (dct [] [] m)):=.cons (.refl _) (.cons (.refl _) (.cons (.emp 7) (.cons (.emp 7) (.cons (.emp 7) (.refl _)))))
theorem c6g (k v:List Ob) (m:Int):K3 (R1 (.sl 7 (k.map g9)) (.sl 7 (v.map g9)) m) (k9 (dct k v m)):=.cons (.refl _) (.cons (.refl _) (.cons (.emp 7) (.refl _)))
theorem c1t:LeR Y4 (a1e.map k9):=
 .cons (c6g [nmO b3G,nmO b3H] [opO b3G,opO b3H] 200) (.cons (b5W 50) (.cons (b5W 30) (.cons (b5W 12) (.cons (c6g (b7m.map nmO) [dO 5,dO 6,dO 7,dO 8,dO 9] 5)
  (.cons (b5W 10) (.cons (b5W 10) (.cons (b5W 10) (.cons (b5W 10) (.cons (b5W 10) .nil)))))))))
theorem c1u:∀ c ∈ a1e,a7b c:=by
 intro c hc
 simp only [a1e,List.mem_cons,List.not_mem_nil,or_false] at hc
 rcases hc with rfl | rfl | rfl | rfl | rfl | rfl | rfl | rfl | rfl | rfl <;>(refine ⟨⟨by decide,by decide,by decide,by decide⟩,by decide,⟨_,_,_,_,_,_,_,_,_,_,rfl,⟨by decide,by decide,by decide⟩,b0m (by decide) (by decide),b0m (by decide) (by decide),b0m (by decide) (by decide)⟩⟩)
def a2e (h:List Cl):Prop:=∃ more,h=a1e++more∧more.length≤10∧∀ c ∈ h,a7b c
theorem a2e.rows {h:List Cl} (t:a2e h):(∀ r ∈ h.map k9,a2P r)∧(h.map k9).length≤1000000:=by
 obtain ⟨more,rfl,hm,hall⟩:=t
 refine ⟨fun r hr=>?_,by simp [a1e];omega⟩
 obtain ⟨c,hc,rfl⟩:=List.mem_map.1 hr
 exact (hall c hc).2.2
theorem a2e.small {h:List Cl} (t:a2e h):small h:=by
 obtain ⟨more,rfl,hm,hall⟩:=t
 exact ⟨by simp [a1e];omega,fun c hc=>(hall c hc).1⟩
def mkS (ops d9:List Ob) (heap:List Cl):B4:=⟨ops,d9,heap,[],0,0,0,0,0,0,0,[],0,0,0,0,0,0,0,0,0,0,0,0,0,0,0,0,0,0,0,0,false,false,[],0,0,0,0,0,0,0,0,[],0,0,[],0,false,0,[],0,0,0,0,0,0,0,0,0,0,0,[],[],[],[],1⟩
def c4T (s:B4):Prop:=∃ ops d9 heap,s=mkS ops d9 heap∧a2e heap∧ops.length≤20∧(∀ o ∈ ops,o.n<9223372036854775808)∧2≤d9.length∧d9.length≤6∧∀ o ∈ d9,∃ j:Int,o=dO j∧0≤j∧j<heap.length
end Go.Ab.Td
namespace Go.Ab.Td.TdW19
set_option maxRecDepth 100000
set_option maxRecDepth 100000
open Go Go.Ab Go.Ab.Td
variable {P:Program}
set_option linter.unusedSimpArgs false
def a0O:TF:=(.node (.node (.node (.node (.node (.node .nil (.node (.leaf D9 V5) (.leaf B1 Z2))) (.leaf x5 A5)) (.node (.node (.node (.leaf l0 M8) (.leaf k8 F4)) (.leaf o6 R8)) (.leaf B0 a9D))) (.node (.node (.leaf L7 R9) (.node (.leaf J4 a5j) (.node (.node (.leaf E9 U0) (.leaf v8 G9)) .nil))) (.node (.leaf n5 K8) (.node (.node (.leaf M6 a3B) (.leaf u4 Z3)) (.leaf B2 F5))))) (.node (.node .nil (.node (.node (.leaf x7 W2) (.node (.leaf O0 a2u) (.leaf P3 W1))) (.node (.leaf O2 a5i) (.leaf H3 X9)))) (.node (.node (.node .nil (.node (.node (.leaf C3 a1H) (.leaf y8 D6)) .nil)) (.leaf x4 A4)) (.node (.leaf u9 K9) (.node (.node (.leaf O3 a2v) (.leaf o4 M9)) (.leaf y7 N1)))))) (.node (.node (.node (.leaf E4 a2p) (.node (.node (.node (.leaf v3 a0s) (.leaf y1 N0)) (.leaf D4 O6)) (.leaf n8 Q9))) (.node (.node (.leaf y3 C1) (.node (.leaf B7 a4c) (.leaf l5 p9))) (.node (.node (.node (.leaf C4 H8) (.leaf A9 F3)) (.leaf p7 J8)) (.node (.node (.leaf l6 L2) (.leaf j4 P9)) .nil)))) (.node (.node (.node (.leaf M4 a3y) (.leaf P4 a1q)) (.node (.leaf L6 T9) (.leaf B9 a2w))) (.node (.node (.node (.leaf K1 a1s) (.leaf s9 y2)) (.leaf I6 a2r)) (.node (.leaf P5 a4d) (.node (.node (.leaf H5 a1Y) (.leaf p8 U1)) .nil))))))
def a0P:TF:=.nil
def b2S:TF:=(.node (.leaf l0 M8) (.node (.leaf p7 J8) (.node (.leaf P4 a1q) (.leaf I6 a2r))))
def b2T:TF:=(.leaf l5 p9)
def c7I:List AV:=[.pv (.int .i64 (0)),.pv (.bool false),.pv (.int .i64 (0)),.pv (.str []),.pv (.int .i64 (0)),.pv (.int .i64 (0)),.pv (.int .i64 (0))]
def ext (g:Nat):Option a1V:=match Nat.beq g k8 with | true=>some (a7R 7 64) | false=>none
theorem c1a (C:Laid P):a0O.all (b9 P)=true:=by simp only [a0O,TF.all,b3l C,a7z C,a5r C,a4L C,a0B C,a5t C,a5q C,a6l C,a6j C,a5s C,a1i C,a5E C,a4i C,F6 C,a3d C,Z8 C,a7y C,a8Y C,N4 C,q0 C,N5 C,a1j C,a3c C,a3a C,a1Z C,a4g C,W3 C,U3 C,a2B C,a4h C,a4I C,a1g C,a1M C,a1h C,a2C C,a3J C,a0d C,a5u C,a5I C,a2j C,a3b C,S3 C,V9 C,L4 C,Q4 C,V2 C,Q3 C,Q2 C,Z9 C,a0C C,Bool.and_self]
theorem c1c (_C:Laid P):a0P.all (b9 P)=true:=by simp only [a0P,TF.all,Bool.and_self]
theorem c1b (C:Laid P):b2S.all (b9 P)=true:=by simp only [b2S,TF.all,U3 C,W3 C,a7y C,a5r C,Bool.and_self]
theorem a4G (C:Laid P):Q1 P l5 p9=true:=by
 unfold Q1
 rw [Q3 C]
 kernel_rfl
theorem c1d (C:Laid P):b2T.all (Q1 P)=true:=by simp only [b2T,TF.all,a4G C,Bool.and_self]
theorem c1n:F4=a6c 7 64 c7I:=rfl
theorem b6a (C:Laid P):a3w P G fun g=>(ext g).map a5Q:=by
 intro g h hg
 cases hb:Nat.beq g k8 with
 | true=>
   have:=Nat.eq_of_beq_eq_true hb
   subst this
   cases hg
   exact c1o C.mixed (by rw [← c1n];exact F6 C)
 | false=>
   have:ext g=none:=by unfold ext;rw [hb]
   simp only [this] at hg
   cases hg
theorem a8Z:∀ g ps own r,kn0 g ps=some (own,r)→j6 P G g ps own r:=fun _ _ _ _ h=>by cases h
theorem run:isR [] (.bool true) ((a4A G kn0 ext b2S.fn b2T.fn a0O.fn a0P.fn 10000 20).call P5 [])=true:=by kernel_rfl
theorem ok (C:Laid P):j6 P G P5 [] [] (.bool true):=a6U C.mixed a8Z (b6a C) (TF.b8 (c1b C)) (TF.b8 (c1d C)) (TF.b8 (c1a C)) (TF.b8 (c1c C)) (b4U run)
end Go.Ab.Td.TdW19
namespace Go.Ab.Td
set_option maxRecDepth 100000
set_option maxRecDepth 100000
open Go Go.Ab
variable {P:Program}
set_option linter.unusedSimpArgs false
attribute [local irreducible] d8
set_option maxHeartbeats 1000000 in
theorem b2p (C:Laid P) (n:Int):j6 P G B7 [pI n] [] (aO (svO n)):=by
 refine i7 C (a7z C) rfl ?_
 repeat' ((conv=>whnf);first | (with_reducible refine sC (by kernel_rfl) ?_) | ((first | (with_reducible first | refine sB ?_ | refine x8 ?_ | refine x9 ?_) | refine sP (by rfl) ?_);first | refine oT ?_ | refine oF ?_ | (refine Or.inr (Or.inr ⟨fun hsp=>?_,fun hsp=>?_⟩) <;>(try simp only [nm] at hsp) <;>try subst hsp)) | fail)
 all_goals (conv=>whnf)
 all_goals (exact PV.le.refl _)
set_option maxHeartbeats 8000000 in
theorem b2q (C:Laid P) (cells ops d9:List (List PV)) (s:B4) (ks:j6 P G D8 [.agg [.sl 5 cells,.sl 5 ops,.sl 1 d9]] [] (aS s)):j6 P G a1w [.agg [.sl 5 cells,.sl 5 ops,.sl 1 d9]] [] (aS {s with f45:=1}):=by
 refine i7 C (b3k C) rfl ?_
 repeat' ((conv=>whnf);first | (with_reducible refine sC (by kernel_rfl) ?_) | ((first | (with_reducible first | refine sB ?_ | refine x8 ?_ | refine x9 ?_) | refine sP (by rfl) ?_);first | refine oT ?_ | refine oF ?_ | (refine Or.inr (Or.inr ⟨fun hsp=>?_,fun hsp=>?_⟩) <;>(try simp only [nm] at hsp) <;>try subst hsp)) | refine ⟨_,_,ks,?_⟩ | fail)
 all_goals (conv=>whnf)
 all_goals (exact PV.le.refl _)
end Go.Ab.Td
namespace Go.Ab.Td
set_option maxRecDepth 100000
set_option maxRecDepth 100000
open Go Go.Ab
variable {P:Program}
set_option linter.unusedSimpArgs false
attribute [local irreducible] d8
set_option maxHeartbeats 1000000 in
theorem a9e (C:Laid P) (n:Int):j6 P G a0f [pI n] [] (aO ⟨3,false,n,[],0,0,0⟩):=by
 refine i7 C (b6j C) rfl ?_
 repeat' ((conv=>whnf);first | (with_reducible refine sC (by kernel_rfl) ?_) | ((with_reducible refine sB ?_);first | refine oT ?_ | refine oF ?_ | (refine Or.inr (Or.inr ⟨fun hsp=>?_,fun hsp=>?_⟩) <;>(try simp only [nm] at hsp) <;>try subst hsp)) | ((with_reducible refine x8 ?_);first | refine oT ?_ | refine oF ?_ | (refine Or.inr (Or.inr ⟨fun hsp=>?_,fun hsp=>?_⟩) <;>(try simp only [nm] at hsp) <;>try subst hsp)) | ((with_reducible refine x9 ?_);first | refine oT ?_ | refine oF ?_ | (refine Or.inr (Or.inr ⟨fun hsp=>?_,fun hsp=>?_⟩) <;>(try simp only [nm] at hsp) <;>try subst hsp)) | ((refine sP (by rfl) ?_);first | refine oT ?_ | refine oF ?_ | (refine Or.inr (Or.inr ⟨fun hsp=>?_,fun hsp=>?_⟩) <;>(try simp only [nm] at hsp) <;>try subst hsp)) | fail)
 all_goals (conv=>whnf)
 all_goals (exact PV.le.refl _)
end Go.Ab.Td
namespace Go.Ab.Td
set_option maxRecDepth 100000
set_option maxRecDepth 100000
open Go Go.Ab
variable {P:Program}
set_option linter.unusedSimpArgs false
attribute [local irreducible] d8
set_option maxHeartbeats 1000000 in
theorem a1B (C:Laid P) (h:List Cl) (n:Int) (c:Cl) (h0:0≤n) (h1:n<h.length) (hl:h.length≤1000000):j6 P G J0 [.sl 7 (List.map k9 h),pI n,aC c] [] (.sl 7 (List.map k9 (h.set n.toNat c))):=by
 refine i7 C (b5c C) rfl ?_
 repeat' ((conv=>whnf);first | (with_reducible refine sC (by kernel_rfl) ?_) | ((with_reducible refine sB ?_);first | refine oT ?_ | refine oF ?_ | (refine Or.inr (Or.inr ⟨fun hsp=>?_,fun hsp=>?_⟩) <;>(try simp only [nm] at hsp) <;>try subst hsp)) | ((with_reducible refine x8 ?_);first | refine oT ?_ | refine oF ?_ | (refine Or.inr (Or.inr ⟨fun hsp=>?_,fun hsp=>?_⟩) <;>(try simp only [nm] at hsp) <;>try subst hsp)) | ((with_reducible refine x9 ?_);first | refine oT ?_ | refine oF ?_ | (refine Or.inr (Or.inr ⟨fun hsp=>?_,fun hsp=>?_⟩) <;>(try simp only [nm] at hsp) <;>try subst hsp)) | ((refine sP (by rfl) ?_);first | refine oT ?_ | refine oF ?_ | (refine Or.inr (Or.inr ⟨fun hsp=>?_,fun hsp=>?_⟩) <;>(try simp only [nm] at hsp) <;>try subst hsp)) | refine sS (T8 (by rfl) (by first | exact e9 | exact d6 | exact d7 (by rfl) (by rfl)) (by rfl) (by (try simp only [ln]);omega)) ?_ | refine sS (T8 (f:=g9) (x':=[⟨_,_,_,_,_,_,_⟩]) (by rfl) (by first | exact e9 | exact d6 | exact d7 (by rfl) (by rfl)) (by rfl) (by (try simp only [ln]);omega)) ?_ | refine sS (T8 (f:=k9) (x':=[⟨_,_,_,_,_,_,_⟩]) (by rfl) (by first | exact e9 | exact d6 | exact d7 (by rfl) (by rfl)) (by rfl) (by (try simp only [ln]);omega)) ?_ | refine sS (m7 (by rfl) (by rfl) (by (try simp only [ln]);omega) (by first | exact e9 | exact d6 | exact d7 (by rfl) (by rfl)) (by rfl) (by (try simp only [ln]);omega)) ?_ | refine sS (m7 (f:=g9) (x':=[⟨_,_,_,_,_,_,_⟩]) (by rfl) (by rfl) (by (try simp only [ln]);omega) (by first | exact e9 | exact d6 | exact d7 (by rfl) (by rfl)) (by rfl) (by (try simp only [ln]);omega)) ?_ | refine sS (m7 (f:=k9) (x':=[⟨_,_,_,_,_,_,_⟩]) (by rfl) (by rfl) (by (try simp only [ln]);omega) (by first | exact e9 | exact d6 | exact d7 (by rfl) (by rfl)) (by rfl) (by (try simp only [ln]);omega)) ?_ | refine sS (o9 (by rfl) (by first | exact e9 | exact d6 | exact d7 (by rfl) (by rfl)) (by rfl) (by (try simp only [ln]);omega)) ?_ | refine sS (o9 (f:=g9) (x':=[⟨_,_,_,_,_,_,_⟩]) (by rfl) (by first | exact e9 | exact d6 | exact d7 (by rfl) (by rfl)) (by rfl) (by (try simp only [ln]);omega)) ?_ | refine sS (o9 (f:=k9) (x':=[⟨_,_,_,_,_,_,_⟩]) (by rfl) (by first | exact e9 | exact d6 | exact d7 (by rfl) (by rfl)) (by rfl) (by (try simp only [ln]);omega)) ?_ | refine sS (a6G (by rfl) (by rfl) (by rfl) (by rfl) (by (try simp only [ln]);omega) (by (try simp only [ln]);omega) (by first | rfl | ((try simp only [ln]);omega)) (by (try simp only [ln]);omega)) ?_ | refine sS (a3S (by rfl) (by rfl) (by rfl) (by (try simp only [ln]);omega) (by (try simp only [ln]);omega) (by (try simp only [ln]);omega)) ?_ | refine sS (b2O (by rfl) (by rfl) (by rfl) (by (try simp only [ln]);omega) (by (try simp only [ln]);omega) (by (try simp only [ln]);omega)) ?_ | refine sS (a4V (by rfl) (by rfl) (by rfl) (by (try simp only [ln]);omega) (by (try simp only [ln]);omega) (by (try simp only [ln]);omega)) ?_ | refine sS (e8 (by rfl) (by rfl) (by omega) (a3l (d:=cl0) (by omega) (by omega))) ?_ | refine sS (e8 (by rfl) (by rfl) (by omega) (a3l (d:=ob0) (by omega) (by omega))) ?_ | refine sS (a4m (by rfl) (by rfl) (by omega)) ?_ | refine sS (b0h (by rfl) (by rfl) (by omega)) ?_ | refine sS (b4P (by rfl) (by rfl) (by rfl) (by omega) (by first | omega | (simp only [List.length_map];omega))) ?_ | refine sS (b5y (c:=c) (by rfl) (by rfl) (by omega) (fun _=>rfl) (by rfl) (by rfl) (by rfl)) ?_ | fail)
 all_goals (conv=>whnf)
 all_goals (refine u3 ?_;simp;exact List.take_of_length_le (by simp))
theorem a5N (C:Laid P) (h:List Cl) (n:Int) (c_k:Int) (c_b:List UInt8) (c_i:List Ob) (c_ks:List Ob) (c_vs:List Ob) (c_m:Int) (c_a:Int) (h0:0≤n) (h1:n<h.length) (hl:h.length≤1000000):j6 P G J0 [.sl 7 (List.map k9 h),pI n,.agg [.int .i64 c_k,.str c_b,.sl 7 (List.map g9 c_i),.sl 7 (List.map g9 c_ks),.sl 7 (List.map g9 c_vs),.int .i64 c_m,.int .i64 c_a]] [] (.sl 7 (List.map k9 (h.set n.toNat (⟨c_k,c_b,c_i,c_ks,c_vs,c_m,c_a⟩:Cl)))):=a1B C h n (⟨c_k,c_b,c_i,c_ks,c_vs,c_m,c_a⟩:Cl) h0 h1 hl
set_option maxHeartbeats 1000000 in
theorem a7g (C:Laid P) (h:List Cl) (d k v:Ob) (h0:0≤d.ref) (h1:d.ref<h.length) (hs:small h) (hp:a2l (cellAt h d) k v=none):j6 P G X0 [.sl 7 (List.map k9 h),aO d,aO k,aO v] [] (.v9 [.sl 7 (List.map k9 []),.bool false]):=by
 refine i7 C (a7B C) rfl ?_
 have hsm:=a9v hs d
 obtain ⟨hm1,hm2,hm3,hm4⟩:=hsm
 have hl:=b2E (cellAt h d) k v
 have hcl:((h[d.ref.toNat]?).getD cl0)=cellAt h d:=rfl
 obtain ⟨hs1,hs2⟩:=hs
 repeat' ((conv=>whnf);first | (with_reducible refine sC (by kernel_rfl) ?_) | ((with_reducible refine sB ?_);first | refine Or.inl ⟨by first | assumption | (simp only [nm,List.length_map,hcl];first | done | assumption | omega),?_⟩ | refine Or.inr (Or.inl ⟨by first | assumption | (simp only [nm,List.length_map,hcl];first | done | assumption | omega),?_⟩) | (refine Or.inr (Or.inr ⟨fun hsp=>?_,fun hsp=>?_⟩) <;>(try simp only [nm,List.length_map,hcl] at hsp) <;>try subst hsp)) | ((with_reducible refine x8 ?_);first | refine Or.inl ⟨by first | assumption | (simp only [nm,List.length_map,hcl];first | done | assumption | omega),?_⟩ | refine Or.inr (Or.inl ⟨by first | assumption | (simp only [nm,List.length_map,hcl];first | done | assumption | omega),?_⟩) | (refine Or.inr (Or.inr ⟨fun hsp=>?_,fun hsp=>?_⟩) <;>(try simp only [nm,List.length_map,hcl] at hsp) <;>try subst hsp)) | ((with_reducible refine x9 ?_);first | refine Or.inl ⟨by first | assumption | (simp only [nm,List.length_map,hcl];first | done | assumption | omega),?_⟩ | refine Or.inr (Or.inl ⟨by first | assumption | (simp only [nm,List.length_map,hcl];first | done | assumption | omega),?_⟩) | (refine Or.inr (Or.inr ⟨fun hsp=>?_,fun hsp=>?_⟩) <;>(try simp only [nm,List.length_map,hcl] at hsp) <;>try subst hsp)) | ((refine sP (by rfl) ?_);first | refine Or.inl ⟨by first | assumption | (simp only [nm,List.length_map,hcl];first | done | assumption | omega),?_⟩ | refine Or.inr (Or.inl ⟨by first | assumption | (simp only [nm,List.length_map,hcl];first | done | assumption | omega),?_⟩) | (refine Or.inr (Or.inr ⟨fun hsp=>?_,fun hsp=>?_⟩) <;>(try simp only [nm,List.length_map,hcl] at hsp) <;>try subst hsp)) | refine ⟨_,_,a6z C (cellAt h d).keys k (by omega),?_⟩ | refine ⟨_,_,a5N C _ _ _ _ _ _ _ _ _ (by omega) (by omega) (by omega),?_⟩ | refine sS (o9 (x':=(cellAt h d).keys) (f:=g9) (by rfl) (by first | exact e9 | exact d6 | exact d7 (by rfl) (by rfl)) (by rfl) (by omega)) ?_ | refine sS (o9 (x':=(cellAt h d).A7) (f:=g9) (by rfl) (by first | exact e9 | exact d6 | exact d7 (by rfl) (by rfl)) (by rfl) (by omega)) ?_ | refine sS (m7 (l:=(cellAt h d).keys) (f:=g9) (x':=[k]) (by rfl) (by rfl) (by omega) (by first | exact e9 | exact d6 | exact d7 (by rfl) (by rfl)) (by rfl) (by simp only [List.length_cons,List.length_nil];omega)) ?_ | refine sS (m7 (l:=(cellAt h d).A7) (f:=g9) (x':=[v]) (by rfl) (by rfl) (by omega) (by first | exact e9 | exact d6 | exact d7 (by rfl) (by rfl)) (by rfl) (by simp only [List.length_cons,List.length_nil];omega)) ?_ | refine sS (e8 (by rfl) (by rfl) (by omega) (a3l (d:=cl0) (by omega) (by omega))) ?_ | refine sS (b4P (by rfl) (by rfl) (by rfl) (by omega) (by first | omega | (simp only [List.length_map];omega))) ?_ | refine sS (b5y (l:=(cellAt h d).A7) (c:=v) (by rfl) (by rfl) (by omega) (fun _=>rfl) (by rfl) (by rfl) (by rfl)) ?_ | fail)
 all_goals (conv=>whnf)
 all_goals (first | ((repeat' (first | (with_reducible exact PV.le.refl _) | exact PV.le.emp _ | exact K3.nil | (with_reducible refine x6 ?_) | (with_reducible refine s7 ?_) | (refine K3.cons ?_ ?_) | (with_reducible refine l8 ?_) | (with_reducible refine y5 ?_) | (with_reducible refine E2 ?_) | (with_reducible refine C7 ?_) | (with_reducible refine u3 ?_) | (refine E7 ?_))) <;>first | rfl | exact PV.le.refl _) | (exfalso;rw [hl.1 (by omega) (by omega)] at hp;cases hp) | (exfalso;rw [hl.2.2 (by omega) (by omega)] at hp;cases hp))
end Go.Ab.Td
namespace Go.Ab.Td
set_option maxRecDepth 100000
set_option maxRecDepth 100000
open Go Go.Ab
variable {P:Program}
set_option linter.unusedSimpArgs false
attribute [local irreducible] d8
theorem a1D {α:Type} {f:α→List PV} {l:List α} {n:Nat} (h:l.length=n):List.take n (List.drop 0 (List.map f l))=List.map f l:=by
 subst h
 rw [List.drop_zero,List.take_of_length_le (by simp)]
set_option maxHeartbeats 1000000 in
theorem b2u (C:Laid P) (h:List Cl) (d k v:Ob) (c:Cl) (h0:0≤d.ref) (h1:d.ref<h.length) (hs:small h) (hp:a2l (cellAt h d) k v=some c):j6 P G X0 [.sl 7 (List.map k9 h),aO d,aO k,aO v] [] (.v9 [.sl 7 (List.map k9 (h.set d.ref.toNat c)),.bool true]):=by
 refine i7 C (a7B C) rfl ?_
 have hsm:=a9v hs d
 obtain ⟨hm1,hm2,hm3,hm4⟩:=hsm
 have hl:=b2E (cellAt h d) k v
 have hcl:((h[d.ref.toNat]?).getD cl0)=cellAt h d:=rfl
 obtain ⟨hs1,hs2⟩:=hs
 repeat' ((conv=>whnf);first | (with_reducible refine sC (by kernel_rfl) ?_) | ((with_reducible refine sB ?_);first | refine Or.inl ⟨by first | assumption | (simp only [nm,List.length_map,hcl];first | done | assumption | omega),?_⟩ | refine Or.inr (Or.inl ⟨by first | assumption | (simp only [nm,List.length_map,hcl];first | done | assumption | omega),?_⟩) | (refine Or.inr (Or.inr ⟨fun hsp=>?_,fun hsp=>?_⟩) <;>(try simp only [nm,List.length_map,hcl] at hsp) <;>try subst hsp)) | ((with_reducible refine x8 ?_);first | refine Or.inl ⟨by first | assumption | (simp only [nm,List.length_map,hcl];first | done | assumption | omega),?_⟩ | refine Or.inr (Or.inl ⟨by first | assumption | (simp only [nm,List.length_map,hcl];first | done | assumption | omega),?_⟩) | (refine Or.inr (Or.inr ⟨fun hsp=>?_,fun hsp=>?_⟩) <;>(try simp only [nm,List.length_map,hcl] at hsp) <;>try subst hsp)) | ((with_reducible refine x9 ?_);first | refine Or.inl ⟨by first | assumption | (simp only [nm,List.length_map,hcl];first | done | assumption | omega),?_⟩ | refine Or.inr (Or.inl ⟨by first | assumption | (simp only [nm,List.length_map,hcl];first | done | assumption | omega),?_⟩) | (refine Or.inr (Or.inr ⟨fun hsp=>?_,fun hsp=>?_⟩) <;>(try simp only [nm,List.length_map,hcl] at hsp) <;>try subst hsp)) | ((refine sP (by rfl) ?_);first | refine Or.inl ⟨by first | assumption | (simp only [nm,List.length_map,hcl];first | done | assumption | omega),?_⟩ | refine Or.inr (Or.inl ⟨by first | assumption | (simp only [nm,List.length_map,hcl];first | done | assumption | omega),?_⟩) | (refine Or.inr (Or.inr ⟨fun hsp=>?_,fun hsp=>?_⟩) <;>(try simp only [nm,List.length_map,hcl] at hsp) <;>try subst hsp)) | refine ⟨_,_,a6z C (cellAt h d).keys k (by omega),?_⟩ | refine ⟨_,_,a5N C _ _ _ _ _ _ _ _ _ (by omega) (by omega) (by omega),?_⟩ | refine sS (o9 (x':=(cellAt h d).keys) (f:=g9) (by rfl) (by first | exact e9 | exact d6 | exact d7 (by rfl) (by rfl)) (by rfl) (by omega)) ?_ | refine sS (o9 (x':=(cellAt h d).A7) (f:=g9) (by rfl) (by first | exact e9 | exact d6 | exact d7 (by rfl) (by rfl)) (by rfl) (by omega)) ?_ | refine sS (m7 (l:=(cellAt h d).keys) (f:=g9) (x':=[k]) (by rfl) (by rfl) (by omega) (by first | exact e9 | exact d6 | exact d7 (by rfl) (by rfl)) (by rfl) (by simp only [List.length_cons,List.length_nil];omega)) ?_ | refine sS (m7 (l:=(cellAt h d).A7) (f:=g9) (x':=[v]) (by rfl) (by rfl) (by omega) (by first | exact e9 | exact d6 | exact d7 (by rfl) (by rfl)) (by rfl) (by simp only [List.length_cons,List.length_nil];omega)) ?_ | refine sS (e8 (by rfl) (by rfl) (by omega) (a3l (d:=cl0) (by omega) (by omega))) ?_ | refine sS (b4P (by rfl) (by rfl) (by rfl) (by omega) (by first | omega | (simp only [List.length_map];omega))) ?_ | refine sS (b5y (l:=(cellAt h d).A7) (c:=v) (by rfl) (by rfl) (by omega) (fun _=>rfl) (by rfl) (by rfl) (by rfl)) ?_ | rw [a1D (f:=g9) (l:=(cellAt h d).keys++[k]) (by simp)] | rw [a1D (f:=g9) (l:=(cellAt h d).A7++[v]) (by simp)] | rw [a1D (f:=g9) (l:=(cellAt h d).A7.set _ v) (by simp)] | fail)
 all_goals (conv=>whnf)
 all_goals (first | (exfalso;rw [hl.2.1 (by omega) (by omega)] at hp;cases hp) | (rw [hl.1 (by omega) (by omega)] at hp;cases hp;refine le_of_eq ?_;simp [hcl]) | (rw [hl.2.2 (by omega) (by omega)] at hp;cases hp;refine le_of_eq ?_;simp [hcl]))
end Go.Ab.Td
namespace Go.Ab.Td
set_option maxRecDepth 100000
open Go Go.Ab
variable {P:Program}
set_option linter.unusedSimpArgs false
attribute [local irreducible] d8
end Go.Ab.Td
