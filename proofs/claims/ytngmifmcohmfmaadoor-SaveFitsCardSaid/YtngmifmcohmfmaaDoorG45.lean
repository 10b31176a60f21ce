/- A part of the proof: the texts TdRw. Under: nothing. -/
import Derived.Test.YtngmifmcohmfmaaDoorG35
import Derived.Test.YtngmifmcohmfmaaDoorG41
import Derived.Test.YtngmifmcohmfmaaDoorG43
import Derived.Test.YtngmifmcohmfmaaDoorG44
set_option linter.unusedVariables false
namespace Go.Ab.Td
set_option maxRecDepth 100000
set_option maxRecDepth 100000
open Go Go.Ab
variable {P:Program}
set_option linter.unusedSimpArgs false
attribute [local irreducible] f0
theorem c6T {α:Type} {Inv:Nat→α→Prop} {R:Nat→α→α→Prop} (x0:α) (h0:Inv 0 x0) (h:∀ i x,Inv i x→∃ y,Inv (i+1) y∧R i x y):∃ S:Nat→α,S 0=x0∧∀ i,Inv i (S i)∧R i (S i) (S (i+1)):=by
 have hc:∀ i:Nat,∃ f:α→α,∀ x,Inv i x→Inv (i+1) (f x)∧R i x (f x):=fun i=>by
  have:∀ x,∃ y,Inv i x→Inv (i+1) y∧R i x y:=fun x=>by
   by_cases hx:Inv i x
   ·obtain ⟨y,hy⟩:=h i x hx;exact ⟨y,fun _=>hy⟩
   ·exact ⟨x,fun h=>absurd h hx⟩
  exact Classical.axiomOfChoice this
 obtain ⟨f,hf⟩:=Classical.axiomOfChoice hc
 let S:Nat→α:=fun n=>Nat.rec x0 (fun i x=>f i x) n
 have inv:∀ i,Inv i (S i):=fun i=>by
  induction i with
  | zero=>exact h0
  | succ i ih=>exact (hf i _ ih).1
 exact ⟨S,rfl,fun i=>⟨inv i,(hf i _ (inv i)).2⟩⟩
structure b1f (K:Int→List Ob→List Sn→List x6→Prop):Prop where
 more:∀ {n d l ts} (d':List Ob),(∀ p ∈ d',p.kind=9)→K n d l ts→K n (d++d') l ts
 save:∀ {n d l ts} (h:List Cl) (s:x6),K n d l ts→K (n+1) d (l++[(⟨n+1,h,(l.length:Int)⟩:Sn)]) (ts++[s])
 back:∀ {n d l ts} (i:Nat),K n d l ts→K n d (l.take i) (ts.take i)
def b5G (P:Program) (p:Int × Wd) (s t:x6):Prop:=
 (j5 P G q0 [.agg (a6C p)] [] (.str [])∧j5 P G i7 [.agg (a6C p),aS s] [] (aS t))∨
 ∃ (c:UInt8) (op:List UInt8) (e:Int),j5 P G q0 [.agg (a6C p)] [] (.str (c::op))∧j5 P G C7 [aS s,.str (c::op)] [] (.x7 [aS t,pI e])∧(e=0∨(e≠0∧j5 P G o5 [aS t,aS s] [] (.bool true)))
theorem b2x (C:Laid P) {F:Prop} {k:Nat} {u:x6} {l2:List Sn} {ts2:List x6} (si2:SI F k u l2 ts2):j5 P G o5 [aS u,aS u] [] (.bool true):=a8N C u l2 ts2 si2.h3 si2.h62 (b3P si2.sh.sm) (fun y hy=>by obtain ⟨q,hq⟩:=List.getElem?_of_mem hy;exact b3P (si2.sv q y hq).2.1.sm) (by have:=si2.ll;omega) (by have:=si2.ll;have:=si2.tl;omega) (by have:=si2.ol;omega) (by have:=si2.dl;omega)
def StI (F:Prop) (K:Int→List Ob→List Sn→List x6→Prop) (m:Nat) (x:x6 × List Sn × List x6):Prop:=SI F m x.1 x.2.1 x.2.2∧SX x.1∧K x.1.f4 x.1.e8 x.2.1 x.2.2
theorem c1u (C:Laid P) {F:Prop} {K:Int→List Ob→List Sn→List x6→Prop} (hK:b1f K) {m:Nat} (hm:m<1000000) (p:Int × Wd) (hp:0≤p.1∧p.1<256) (x:x6 × List Sn × List x6) (hx:StI F K m x):∃ y:x6 × List Sn × List x6,StI F K (m+1) y∧b5G P p x.1 y.1:=by
 obtain ⟨s,l,ts⟩:=x
 obtain ⟨w,x⟩:=p
 obtain ⟨si,sx,k⟩:=hx
 dsimp only at si sx k hp ⊢
 have hw0:=Int.tmod_nonneg 8 hp.1
 by_cases h3:3≤w.tmod 8
 ·obtain ⟨s2,si2,sub,⟨h4,d',hd,hd9⟩,kA⟩:=b8c C si w hp x h3
  refine ⟨(s2,l,ts),⟨si2.more (by omega),fun p hp hk=>(sub p hp).elim (fun h=>sx p h hk) (fun h=>absurd hk h),?_⟩,.inl ⟨b6r C w x.K x.A x.B x.N x.S h3,kA⟩⟩
  dsimp only
  rw [h4,hd]
  exact hK.more d' hd9 k
 ·have hr:w.tmod 8=0∨w.tmod 8=1∨w.tmod 8=2:=by omega
  rcases hr with hr | hr | hr
  ·obtain ⟨t2,e,l2,ts2,si2,sx2,q,kb1,kb2⟩:=c2x C si sx hm
   rcases q with ⟨rfl,rfl,rfl,h⟩ | ⟨rfl,rfl,rfl,rfl,h4⟩
   ·exact ⟨(t2,l2,ts2),⟨si2,sx2,k⟩,.inr ⟨_,_,e,a9P C w x.K x.A x.B x.N x.S hr,kb1,.inr ⟨by omega,b2x C si2⟩⟩⟩
   ·refine ⟨(svS s,_,_),⟨si2,sx2,?_⟩,.inr ⟨_,_,0,a9P C w x.K x.A x.B x.N x.S hr,kb1,.inl rfl⟩⟩
    show K (svS s).f4 s.e8 _ _
    rw [h4]
    exact hK.save s.heap s k
  ·obtain ⟨t2,e,l2,ts2,si2,sx2,q,kb1,kb2⟩:=b1t C si sx
   rcases q with ⟨rfl,rfl,rfl,h⟩ | ⟨rfl,lo,o,i,y,g,h1,h2,h3',h4,h5,h6,rfl,rfl,rfl⟩
   ·have he:e≠0:=by
     rcases h with h | ⟨lo,o, -,h | h⟩
     ·omega
     ·omega
     ·omega
    exact ⟨(t2,l2,ts2),⟨si2,sx2,k⟩,.inr ⟨_,_,e,a6z C w x.K x.A x.B x.N x.S hr,kb1,.inr ⟨he,b2x C si2⟩⟩⟩
   ·exact ⟨(_,_,_),⟨si2,sx2,hK.back i k⟩,.inr ⟨_,_,0,a6z C w x.K x.A x.B x.N x.S hr,kb1,.inl rfl⟩⟩
  ·obtain ⟨t2,e,l2,ts2,si2,sx2,⟨rfl,rfl,q⟩,kb1,kb2⟩:=c6w C si sx
   rcases q with ⟨rfl,h⟩ | ⟨rfl,rfl⟩
   ·exact ⟨(t2,l2,ts2),⟨si2,sx2,k⟩,.inr ⟨_,_,e,a5n C w x.K x.A x.B x.N x.S hr,kb1,.inr ⟨h,b2x C si2⟩⟩⟩
   ·exact ⟨(_,_,_),⟨si2,sx2,k⟩,.inr ⟨_,_,0,a5n C w x.K x.A x.B x.N x.S hr,kb1,.inl rfl⟩⟩
set_option maxHeartbeats 8000000 in
theorem b3r (C:Laid P) (s s2:x6) (steps:List (Int × Wd)) (S:Nat→x6) (h0:S 0=s) (hn:s2=S (steps.take (60:Int).toNat).length) (hS:∀ i p,(steps.take (60:Int).toNat)[i]?=some p→b5G P p (S i) (S (i+1))):j5 P G Y8 [aS s,.sl 6 (steps.map a6C)] [] (.x7 [aS s2,.bool true]):=by
 refine i5 C (b4k C) rfl ?_
 have kCut:=b6t C steps
 obtain ⟨L,hL⟩:∃ L,L=steps.take (60:Int).toNat:=⟨_,rfl⟩
 rw [← hL] at kCut hS hn
 have hLl:L.length≤60:=by rw [hL,show (60:Int).toNat=60 from rfl,List.length_take];omega
 clear hL
 repeat' ((conv=>whnf);first | (with_reducible refine sC (by kernel_rfl) ?_) | ((first | (with_reducible first | refine sB ?_ | refine p8 ?_ | refine p9 ?_) | refine sP (by rfl) ?_);first | refine oT ?_ | refine oF ?_ | (refine Or.inr (Or.inr ⟨fun hsp=>?_,fun hsp=>?_⟩) <;>(try simp only [nm,List.length_map] at hsp) <;>try subst hsp)) | refine ⟨_,_,kCut,?_⟩ | fail)
 all_goals (conv=>whnf)
 intro X hX hW
 refine a2p hX (fun st (i:Nat)=>st.upd [(13,.pv (pI (i:Int)))] [(0,.box 67 [(c6x (S i)).map .pv] false)]) (fun i k=>i+k=L.length) 0 L.length (by rw [h0];(conv=>whnf);first | done | rfl) (by simp) ?_
 clear h0
 intro m i ih hI
 rcases a0t L i with ⟨p,hlt,hx⟩ | hge
 ·have hrow:=y3 (f:=a6C) hx
  have w1:IntKind.i64.wrap ((i:Int)+1)=((i+1:Nat):Int):=by rw [wrap_small (by omega) (by omega)];omega
  obtain ⟨w,x⟩:=p
  obtain ⟨a,ha⟩:∃ a,a=S i:=⟨_,rfl⟩
  obtain ⟨b,hb⟩:∃ b,b=S (i+1):=⟨_,rfl⟩
  rcases hS i _ hx with ⟨kN,kA⟩ | ⟨c,op,e,kN,kD,rfl | ⟨he,kSS⟩⟩
  ·rw [← ha,← hb] at kA
   rw [← ha]
   repeat' ((conv=>whnf);first | (with_reducible refine sC (by kernel_rfl) ?_) | ((first | (with_reducible first | refine sB ?_ | refine p8 ?_ | refine p9 ?_) | refine sP (by rfl) ?_);first | refine oT ?_ | refine oF ?_ | (refine Or.inr (Or.inr ⟨fun hsp=>?_,fun hsp=>?_⟩) <;>(try simp only [nm,List.length_map] at hsp) <;>try subst hsp)) | refine ⟨_,_,kN,?_⟩ | refine ⟨_,_,kA,?_⟩ | refine sS (e7 (by rfl) (by rfl) (by omega) hrow) ?_ | fail)
   all_goals (conv=>whnf)
   all_goals (refine ih (m - 1) (i+1) _ (by omega) (by omega) (by rw [← hb];(conv=>whnf);first | done | rfl | (rw [w1];first | done | rfl)))
  ·rw [← ha,← hb] at kD
   rw [← ha]
   repeat' ((conv=>whnf);first | (with_reducible refine sC (by kernel_rfl) ?_) | ((first | (with_reducible first | refine sB ?_ | refine p8 ?_ | refine p9 ?_) | refine sP (by rfl) ?_);first | refine oT ?_ | refine oF ?_ | (refine Or.inr (Or.inr ⟨fun hsp=>?_,fun hsp=>?_⟩) <;>(try simp only [nm,List.length_map] at hsp) <;>try subst hsp)) | refine ⟨_,_,kN,?_⟩ | refine ⟨_,_,kD,?_⟩ | refine sS (e7 (by rfl) (by rfl) (by omega) hrow) ?_ | fail)
   all_goals (conv=>whnf)
   all_goals (refine ih (m - 1) (i+1) _ (by omega) (by omega) (by rw [← hb];(conv=>whnf);first | done | rfl | (rw [w1];first | done | rfl)))
  ·rw [← ha,← hb] at kD kSS
   rw [← ha]
   repeat' ((conv=>whnf);first | (with_reducible refine sC (by kernel_rfl) ?_) | ((first | (with_reducible first | refine sB ?_ | refine p8 ?_ | refine p9 ?_) | refine sP (by rfl) ?_);first | refine oT ?_ | refine oF ?_ | (refine Or.inr (Or.inr ⟨fun hsp=>?_,fun hsp=>?_⟩) <;>(try simp only [nm,List.length_map] at hsp) <;>try subst hsp)) | refine ⟨_,_,kN,?_⟩ | refine ⟨_,_,kD,?_⟩ | refine ⟨_,_,kSS,?_⟩ | refine sS (e7 (by rfl) (by rfl) (by omega) hrow) ?_ | fail)
   all_goals (conv=>whnf)
   all_goals (refine ih (m - 1) (i+1) _ (by omega) (by omega) (by rw [← hb];(conv=>whnf);first | done | rfl | (rw [w1];first | done | rfl)))
 ·have hi:i=L.length:=by omega
  subst hi
  rw [← hn]
  repeat' ((conv=>whnf);first | (with_reducible refine sC (by kernel_rfl) ?_) | ((first | (with_reducible first | refine sB ?_ | refine p8 ?_ | refine p9 ?_) | refine sP (by rfl) ?_);first | refine oT ?_ | refine oF ?_ | (refine Or.inr (Or.inr ⟨fun hsp=>?_,fun hsp=>?_⟩) <;>(try simp only [nm,List.length_map] at hsp) <;>try subst hsp)) | fail)
  all_goals (conv=>whnf)
  all_goals (exact PV.le.refl _)
theorem c2i (C:Laid P) {F:Prop} {K:Int→List Ob→List Sn→List x6→Prop} (hK:b1f K) {m:Nat} (hm:m<1000) {s:x6} {l:List Sn} {ts:List x6} (si:SI F m s l ts) (sx:SX s) (k:K s.f4 s.e8 l ts) (steps:List (Int × Wd)) (hl:∀ p ∈ steps,0≤p.1∧p.1<256):∃ (s2:x6) (l2:List Sn) (ts2:List x6),SI F (m+60) s2 l2 ts2∧SX s2∧K s2.f4 s2.e8 l2 ts2∧j5 P G Y8 [aS s,.sl 6 (steps.map a6C)] [] (.x7 [aS s2,.bool true]):=by
 have hLl:(steps.take (60:Int).toNat).length≤60:=by rw [show (60:Int).toNat=60 from rfl,List.length_take];omega
 have hLw:∀ (i:Nat) (p:Int × Wd),(steps.take (60:Int).toNat)[i]?=some p→0≤p.1∧p.1<256:=fun i p hp=>hl p (List.mem_of_mem_take (List.mem_of_getElem? hp))
 generalize hL:steps.take (60:Int).toNat=L at hLl hLw
 obtain ⟨S,h0,hS⟩:=c6T (Inv:=fun i x=>i≤L.length→StI F K (m+i) x) (R:=fun i x y=>i≤L.length→∀ p,L[i]?=some p→b5G P p x.1 y.1) (s,l,ts) (fun _=>⟨si,sx,k⟩) (fun i x hx=>by
  cases hp:L[i]? with
  | none=>exact ⟨x,fun h=>absurd hp (by rw [List.getElem?_eq_getElem (by omega)];simp),fun _ p h=>by cases h⟩
  | some p=>
    have hi:=(List.getElem?_eq_some_iff.1 hp).1
    obtain ⟨y,h1,h2⟩:=c1u C hK (m:=m+i) (by omega) p (hLw i p hp) x (hx (by omega))
    exact ⟨y,fun _=>h1,fun _ q hq=>by cases hq;exact h2⟩)
 obtain ⟨si2,sx2,k2⟩:=(hS L.length).1 (Nat.le_refl _)
 refine ⟨(S L.length).1,(S L.length).2.1,(S L.length).2.2,si2.more (by omega),sx2,k2,?_⟩
 exact b3r C s (S L.length).1 steps (fun i=>(S i).1) (by rw [h0]) (by rw [hL]) (fun i p hp=>by
  rw [hL] at hp
  have hi:=(List.getElem?_eq_some_iff.1 hp).1
  exact (hS i).2 (by omega) p hp)
end Go.Ab.Td
