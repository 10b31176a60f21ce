/- A part of the proof: the texts TdRw. Under: nothing. -/
import Derived.Test.YtngmifmcohmfmaaDoorG36
import Derived.Test.YtngmifmcohmfmaaDoorG42
import Derived.Test.YtngmifmcohmfmaaDoorG44
import Derived.Test.YtngmifmcohmfmaaDoorG45
set_option linter.unusedVariables false
namespace Go.Ab.Td
set_option maxRecDepth 100000
set_option maxRecDepth 100000
open Go Go.Ab
variable {P:Program}
set_option linter.unusedSimpArgs false
attribute [local irreducible] e9
theorem c7o {α:Type} {Inv:Nat→α→Prop} {R:Nat→α→α→Prop} (x0:α) (h0:Inv 0 x0) (h:∀ i x,Inv i x→∃ y,Inv (i+1) y∧R i x y):∃ S:Nat→α,S 0=x0∧∀ i,Inv i (S i)∧R i (S i) (S (i+1)):=by
 have hc:∀ i:Nat,∃ f:α→α,∀ x,Inv i x→Inv (i+1) (f x)∧R i x (f x):=fun i=>by
  have:∀ x,∃ y,Inv i x→Inv (i+1) y∧R i x y:=fun x=>by
   by_cases hx:Inv i x
   ·obtain ⟨y,hy⟩:=h i x hx;exact ⟨y,fun _=>hy⟩
   ·exact ⟨x,fun h=>absurd h hx⟩
  exact Classical.axiomOfChoice this
 obtain ⟨f,hf⟩:=Classical.axiomOfChoice hc
 let S:Nat→α:=fun n=>Nat.rec x0 (fun i x=>f i x) n
 have inv:∀ i,Inv i (S i):=fun i=>by
  induction i with
  | zero=>exact h0
  | succ i ih=>exact (hf i _ ih).1
 exact ⟨S,rfl,fun i=>⟨inv i,(hf i _ (inv i)).2⟩⟩
structure a9r (K:Int→List Ob→List Sn→List v9→Prop):Prop where
 more:∀ {n d l ts} (d':List Ob),(∀ p ∈ d',p.kind=9)→K n d l ts→K n (d++d') l ts
 save:∀ {n d l ts} (h:List Cl) (s:v9),K n d l ts→K (n+1) d (l++[(⟨n+1,h,(l.length:Int)⟩:Sn)]) (ts++[s])
 back:∀ {n d l ts} (i:Nat),K n d l ts→K n d (l.take i) (ts.take i)
def b5T (P:Program) (p:Int × Wd) (s t:v9):Prop:=
 (j4 P G p7 [.agg (a5Q p)] [] (.str [])∧j4 P G i7 [.agg (a5Q p),aS s] [] (aS t))∨
 ∃ (c:UInt8) (op:List UInt8) (e:Int),j4 P G p7 [.agg (a5Q p)] [] (.str (c::op))∧j4 P G A5 [aS s,.str (c::op)] [] (.x6 [aS t,pI e])∧(e=0∨(e≠0∧j4 P G n9 [aS t,aS s] [] (.bool true)))
theorem b2L (C:Laid P) {F:Prop} {k:Nat} {u:v9} {l2:List Sn} {ts2:List v9} (si2:SI F k u l2 ts2):j4 P G n9 [aS u,aS u] [] (.bool true):=a9d C u l2 ts2 si2.h3 si2.h62 (a9k si2.sh.sm) (fun y hy=>by obtain ⟨q,hq⟩:=List.getElem?_of_mem hy;exact a9k (si2.sv q y hq).2.1.sm) (by have:=si2.ll;omega) (by have:=si2.ll;have:=si2.tl;omega) (by have:=si2.ol;omega) (by have:=si2.dl;omega)
def StI (F:Prop) (K:Int→List Ob→List Sn→List v9→Prop) (m:Nat) (x:v9 × List Sn × List v9):Prop:=SI F m x.1 x.2.1 x.2.2∧SX x.1∧K x.1.f4 x.1.e6 x.2.1 x.2.2
theorem c2o (C:Laid P) {F:Prop} {K:Int→List Ob→List Sn→List v9→Prop} (hK:a9r K) {m:Nat} (hm:m<1000000) (p:Int × Wd) (hp:0≤p.1∧p.1<256) (x:v9 × List Sn × List v9) (hx:StI F K m x):∃ y:v9 × List Sn × List v9,StI F K (m+1) y∧b5T P p x.1 y.1:=by
 obtain ⟨s,l,ts⟩:=x
 obtain ⟨w,x⟩:=p
 obtain ⟨si,sx,k⟩:=hx
 dsimp only at si sx k hp ⊢
 have hw0:=Int.tmod_nonneg 8 hp.1
 by_cases h3:3≤w.tmod 8
 ·obtain ⟨s2,si2,sub,⟨h4,d',hd,hd9⟩,kA⟩:=b8u C si w hp x h3
  refine ⟨(s2,l,ts),⟨si2.more (by omega),fun p hp hk=>(sub p hp).elim (fun h=>sx p h hk) (fun h=>absurd hk h),?_⟩,.inl ⟨b6G C w x.K x.A x.B x.N x.S h3,kA⟩⟩
  dsimp only
  rw [h4,hd]
  exact hK.more d' hd9 k
 ·have hr:w.tmod 8=0∨w.tmod 8=1∨w.tmod 8=2:=by omega
  rcases hr with hr | hr | hr
  ·obtain ⟨t2,e,l2,ts2,si2,sx2,q,kb1,kb2⟩:=b7y C si sx hm
   rcases q with ⟨rfl,rfl,rfl,h⟩ | ⟨rfl,rfl,rfl,rfl,h4⟩
   ·exact ⟨(t2,l2,ts2),⟨si2,sx2,k⟩,.inr ⟨_,_,e,b0h C w x.K x.A x.B x.N x.S hr,kb1,.inr ⟨by omega,b2L C si2⟩⟩⟩
   ·refine ⟨(svS s,_,_),⟨si2,sx2,?_⟩,.inr ⟨_,_,0,b0h C w x.K x.A x.B x.N x.S hr,kb1,.inl rfl⟩⟩
    show K (svS s).f4 s.e6 _ _
    rw [h4]
    exact hK.save s.heap s k
  ·obtain ⟨t2,e,l2,ts2,si2,sx2,q,kb1,kb2⟩:=b1J C si sx
   rcases q with ⟨rfl,rfl,rfl,h⟩ | ⟨rfl,lo,o,i,y,g,h1,h2,h3',h4,h5,h6,rfl,rfl,rfl⟩
   ·have he:e≠0:=by
     rcases h with h | ⟨lo,o, -,h | h⟩
     ·omega
     ·omega
     ·omega
    exact ⟨(t2,l2,ts2),⟨si2,sx2,k⟩,.inr ⟨_,_,e,a6R C w x.K x.A x.B x.N x.S hr,kb1,.inr ⟨he,b2L C si2⟩⟩⟩
   ·exact ⟨(_,_,_),⟨si2,sx2,hK.back i k⟩,.inr ⟨_,_,0,a6R C w x.K x.A x.B x.N x.S hr,kb1,.inl rfl⟩⟩
  ·obtain ⟨t2,e,l2,ts2,si2,sx2,⟨rfl,rfl,q⟩,kb1,kb2⟩:=c6R C si sx
   rcases q with ⟨rfl,h⟩ | ⟨rfl,rfl⟩
   ·exact ⟨(t2,l2,ts2),⟨si2,sx2,k⟩,.inr ⟨_,_,e,a5B C w x.K x.A x.B x.N x.S hr,kb1,.inr ⟨h,b2L C si2⟩⟩⟩
   ·exact ⟨(_,_,_),⟨si2,sx2,k⟩,.inr ⟨_,_,0,a5B C w x.K x.A x.B x.N x.S hr,kb1,.inl rfl⟩⟩
set_option maxHeartbeats 8000000 in
theorem b3F (C:Laid P) (s s2:v9) (steps:List (Int × Wd)) (S:Nat→v9) (h0:S 0=s) (hn:s2=S (steps.take (60:Int).toNat).length) (hS:∀ i p,(steps.take (60:Int).toNat)[i]?=some p→b5T P p (S i) (S (i+1))):j4 P G R7 [aS s,.sl 6 (steps.map a5Q)] [] (.x6 [aS s2,.bool true]):=by
 refine i5 C (b4v C) rfl ?_
 have kCut:=b6J C steps
 obtain ⟨L,hL⟩:∃ L,L=steps.take (60:Int).toNat:=⟨_,rfl⟩
 rw [← hL] at kCut hS hn
 have hLl:L.length≤60:=by rw [hL,show (60:Int).toNat=60 from rfl,List.length_take];omega
 clear hL
 repeat' ((conv=>whnf);first | (with_reducible refine sC (by kernel_rfl) ?_) | ((first | (with_reducible first | refine sB ?_ | refine o5 ?_ | refine o6 ?_) | refine sP (by rfl) ?_);first | refine oT ?_ | refine oF ?_ | (refine Or.inr (Or.inr ⟨fun hsp=>?_,fun hsp=>?_⟩) <;>(try simp only [nm,List.length_map] at hsp) <;>try subst hsp)) | refine ⟨_,_,kCut,?_⟩ | fail)
 all_goals (conv=>whnf)
 intro X hX hW
 refine a2s hX (fun st (i:Nat)=>st.upd [(13,.pv (pI (i:Int)))] [(0,.box 67 [(c6S (S i)).map .pv] false)]) (fun i k=>i+k=L.length) 0 L.length (by rw [h0];(conv=>whnf);first | done | rfl) (by simp) ?_
 clear h0
 intro m i ih hI
 rcases a0J L i with ⟨p,hlt,hx⟩ | hge
 ·have hrow:=y9 (f:=a5Q) hx
  have w1:IntKind.i64.wrap ((i:Int)+1)=((i+1:Nat):Int):=by rw [wrap_small (by omega) (by omega)];omega
  obtain ⟨w,x⟩:=p
  obtain ⟨a,ha⟩:∃ a,a=S i:=⟨_,rfl⟩
  obtain ⟨b,hb⟩:∃ b,b=S (i+1):=⟨_,rfl⟩
  rcases hS i _ hx with ⟨kN,kA⟩ | ⟨c,op,e,kN,kD,rfl | ⟨he,kSS⟩⟩
  ·rw [← ha,← hb] at kA
   rw [← ha]
   repeat' ((conv=>whnf);first | (with_reducible refine sC (by kernel_rfl) ?_) | ((first | (with_reducible first | refine sB ?_ | refine o5 ?_ | refine o6 ?_) | refine sP (by rfl) ?_);first | refine oT ?_ | refine oF ?_ | (refine Or.inr (Or.inr ⟨fun hsp=>?_,fun hsp=>?_⟩) <;>(try simp only [nm,List.length_map] at hsp) <;>try subst hsp)) | refine ⟨_,_,kN,?_⟩ | refine ⟨_,_,kA,?_⟩ | refine sS (e7 (by rfl) (by rfl) (by omega) hrow) ?_ | fail)
   all_goals (conv=>whnf)
   all_goals (refine ih (m - 1) (i+1) _ (by omega) (by omega) (by rw [← hb];(conv=>whnf);first | done | rfl | (rw [w1];first | done | rfl)))
  ·rw [← ha,← hb] at kD
   rw [← ha]
   repeat' ((conv=>whnf);first | (with_reducible refine sC (by kernel_rfl) ?_) | ((first | (with_reducible first | refine sB ?_ | refine o5 ?_ | refine o6 ?_) | refine sP (by rfl) ?_);first | refine oT ?_ | refine oF ?_ | (refine Or.inr (Or.inr ⟨fun hsp=>?_,fun hsp=>?_⟩) <;>(try simp only [nm,List.length_map] at hsp) <;>try subst hsp)) | refine ⟨_,_,kN,?_⟩ | refine ⟨_,_,kD,?_⟩ | refine sS (e7 (by rfl) (by rfl) (by omega) hrow) ?_ | fail)
   all_goals (conv=>whnf)
   all_goals (refine ih (m - 1) (i+1) _ (by omega) (by omega) (by rw [← hb];(conv=>whnf);first | done | rfl | (rw [w1];first | done | rfl)))
  ·rw [← ha,← hb] at kD kSS
   rw [← ha]
   repeat' ((conv=>whnf);first | (with_reducible refine sC (by kernel_rfl) ?_) | ((first | (with_reducible first | refine sB ?_ | refine o5 ?_ | refine o6 ?_) | refine sP (by rfl) ?_);first | refine oT ?_ | refine oF ?_ | (refine Or.inr (Or.inr ⟨fun hsp=>?_,fun hsp=>?_⟩) <;>(try simp only [nm,List.length_map] at hsp) <;>try subst hsp)) | refine ⟨_,_,kN,?_⟩ | refine ⟨_,_,kD,?_⟩ | refine ⟨_,_,kSS,?_⟩ | refine sS (e7 (by rfl) (by rfl) (by omega) hrow) ?_ | fail)
   all_goals (conv=>whnf)
   all_goals (refine ih (m - 1) (i+1) _ (by omega) (by omega) (by rw [← hb];(conv=>whnf);first | done | rfl | (rw [w1];first | done | rfl)))
 ·have hi:i=L.length:=by omega
  subst hi
  rw [← hn]
  repeat' ((conv=>whnf);first | (with_reducible refine sC (by kernel_rfl) ?_) | ((first | (with_reducible first | refine sB ?_ | refine o5 ?_ | refine o6 ?_) | refine sP (by rfl) ?_);first | refine oT ?_ | refine oF ?_ | (refine Or.inr (Or.inr ⟨fun hsp=>?_,fun hsp=>?_⟩) <;>(try simp only [nm,List.length_map] at hsp) <;>try subst hsp)) | fail)
  all_goals (conv=>whnf)
  all_goals (exact PV.le.refl _)
theorem b7p (C:Laid P) {F:Prop} {K:Int→List Ob→List Sn→List v9→Prop} (hK:a9r K) {m:Nat} (hm:m<1000) {s:v9} {l:List Sn} {ts:List v9} (si:SI F m s l ts) (sx:SX s) (k:K s.f4 s.e6 l ts) (steps:List (Int × Wd)) (hl:∀ p ∈ steps,0≤p.1∧p.1<256):∃ (s2:v9) (l2:List Sn) (ts2:List v9),SI F (m+60) s2 l2 ts2∧SX s2∧K s2.f4 s2.e6 l2 ts2∧j4 P G R7 [aS s,.sl 6 (steps.map a5Q)] [] (.x6 [aS s2,.bool true]):=by
 have hLl:(steps.take (60:Int).toNat).length≤60:=by rw [show (60:Int).toNat=60 from rfl,List.length_take];omega
 have hLw:∀ (i:Nat) (p:Int × Wd),(steps.take (60:Int).toNat)[i]?=some p→0≤p.1∧p.1<256:=fun i p hp=>hl p (List.mem_of_mem_take (List.mem_of_getElem? hp))
 generalize hL:steps.take (60:Int).toNat=L at hLl hLw
 obtain ⟨S,h0,hS⟩:=c7o (Inv:=fun i x=>i≤L.length→StI F K (m+i) x) (R:=fun i x y=>i≤L.length→∀ p,L[i]?=some p→b5T P p x.1 y.1) (s,l,ts) (fun _=>⟨si,sx,k⟩) (fun i x hx=>by
  cases hp:L[i]? with
  | none=>exact ⟨x,fun h=>absurd hp (by rw [List.getElem?_eq_getElem (by omega)];simp),fun _ p h=>by cases h⟩
  | some p=>
    have hi:=(List.getElem?_eq_some_iff.1 hp).1
    obtain ⟨y,h1,h2⟩:=c2o C hK (m:=m+i) (by omega) p (hLw i p hp) x (hx (by omega))
    exact ⟨y,fun _=>h1,fun _ q hq=>by cases hq;exact h2⟩)
 obtain ⟨si2,sx2,k2⟩:=(hS L.length).1 (Nat.le_refl _)
 refine ⟨(S L.length).1,(S L.length).2.1,(S L.length).2.2,si2.more (by omega),sx2,k2,?_⟩
 exact b3F C s (S L.length).1 steps (fun i=>(S i).1) (by rw [h0]) (by rw [hL]) (fun i p hp=>by
  rw [hL] at hp
  have hi:=(List.getElem?_eq_some_iff.1 hp).1
  exact (hS i).2 (by omega) p hp)
end Go.Ab.Td
