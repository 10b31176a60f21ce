/- A part of the proof: the texts Ab32w, Ab33, Ab34a, Ab34b, Ab34, Ab35, Ab35a, Ab35b, Ab35c, Ab36, Ab37. Under: nothing. -/
import Derived.Test.YtomfaadmmchdcaaGreatDoorG03
import Derived.Control
import Derived.RangeFuncRecord
import Derived.ChangeSame
import Derived.IntWalk
set_option linter.unusedVariables false
namespace Go.Ab
open Go.RowKit
section
variable {B:Nat} {w0:World} {I0:v9} {w:World} {I:v9} {ι:Nat→Option Nat} {σ:b7} {D:Nat→Prop}
theorem b1s {v:Value} {a:AV} {es:Nat} (h:e8 w I ι σ D v a) (he:a.e= .emp es):v= .slice none 0 0:=by
 have:=h.e
 rw [he] at this
 cases this
 rfl
theorem b4K (es:Nat):z5 w I (.slice none 0 0) (.sl es []):=
 .sl (fun _ _=>default) rfl (Nat.le_refl _) (fun i row h=>by simp at h) (fun h=>absurd rfl h) (fun i j row q h=>by simp at h)
theorem z6.c0Q (hs:z6 B w I ι σ D) {b i j es:Nat} {rows:List (List AV)} {row:List AV} {a0 a1:AV} (hb:find σ b=some (.box es rows false)) (hr:rows[i]?=some row) (hj:row[j]?=some a0)
 (ha:∀ x,e8 w I ι σ D x a0→e8 w I ι σ D x a1):
 z6 B w I ι (Q7 σ b (some (.box es (rows.set i (row.set j a1)) false))) D∧q0 w I ι σ D w I ι (Q7 σ b (some (.box es (rows.set i (row.set j a1)) false))) D:=by
 have key:∀ b' o₁,find (Q7 σ b (some (.box es (rows.set i (row.set j a1)) false))) b'=some o₁→(b'=b∧o₁= .box es (rows.set i (row.set j a1)) false)∨(b'≠b∧find σ b'=some o₁):=by
  intro b' o₁ h
  rw [l6] at h
  by_cases e:b'=b
  ·rw [if_pos e] at h;cases h;exact .inl ⟨e,rfl⟩
  ·rw [if_neg e] at h;exact .inr ⟨e,h⟩
 have hL:q0 w I ι σ D w I ι (Q7 σ b (some (.box es (rows.set i (row.set j a1)) false))) D:=by
  refine ⟨⟨fun r' k v hi hx=>⟨hx,hi⟩,fun _ h=>h,fun b' o₁ hD h=>?_,fun r₁ c₁ T₁ fz₁ h₁=>⟨c₁,fz₁,h₁,rfl⟩,fun _ _=>rfl⟩,fun _ _ _ h=>h⟩
  rcases key b' o₁ h with ⟨rfl,rfl⟩ | ⟨_,h⟩
  ·exact ⟨_,hb,rfl,by simp [d9.len],rfl⟩
  ·exact ⟨o₁,h,rfl,rfl,rfl⟩
 refine ⟨⟨hs.bnd,fun b' o₁ h=>?_,fun b₁ b₂ o₁ o₂ r' h₁ h₂ e₁ e₂=>?_,fun b' o₁ r' h e=>?_,fun b' o₁ r' k h e hi=>?_,fun b' o₁ h=>?_⟩,hL⟩
 ·rcases key b' o₁ h with ⟨rfl,rfl⟩ | ⟨_,h⟩
  ·exact hs.dom _ _ hb
  ·exact hs.dom b' o₁ h
 ·rcases key b₁ o₁ h₁ with ⟨rfl,rfl⟩ | ⟨n₁,g₁⟩ <;>rcases key b₂ o₂ h₂ with ⟨rfl,rfl⟩ | ⟨n₂,g₂⟩
  ·rfl
  ·exact hs.inj _ _ _ _ r' hb g₂ e₁ e₂
  ·exact hs.inj _ _ _ _ r' g₁ hb e₁ e₂
  ·exact hs.inj _ _ _ _ r' g₁ g₂ e₁ e₂
 ·rcases key b' o₁ h with ⟨rfl,rfl⟩ | ⟨_,h⟩
  ·exact hs.ge _ _ r' hb e
  ·exact hs.ge b' o₁ r' h e
 ·rcases key b' o₁ h with ⟨rfl,rfl⟩ | ⟨_,h⟩
  ·have:=(hs.sep _ _ r' k hb e hi).1
   simp [d9.O3] at this
  ·exact hs.sep b' o₁ r' k h e hi
 ·rcases key b' o₁ h with ⟨rfl,rfl⟩ | ⟨_,h⟩
  ·have hob:D6 w I ι σ D b' (.box es rows false):=hs.obj _ _ hb
   show D6 w I ι _ D b' (.box es (rows.set i (row.set j a1)) false)
   rcases hob with ⟨h1,h2⟩ | ⟨r,c,T,fz,h1,h2,h3,h4,h5⟩
   ·exact .inl ⟨h1,by simpa [d9.len] using h2⟩
   ·refine .inr ⟨r,c,T,fz,h1,h2,h3,by simpa [d9.len,d9.es] using h4,fun i' row' hrow=>?_⟩
    simp only [d9.row?,List.getElem?_set] at hrow
    split at hrow
    ·rename_i e
     subst e
     split at hrow
     ·cases hrow
      obtain ⟨k1,k2⟩:=h5 i row (by simpa [d9.row?] using hr)
      refine ⟨by simpa [d9.es] using k1,fun j' v hv=>?_⟩
      rw [List.getElem?_set] at hv
      split at hv
      ·rename_i e
       subst e
       split at hv
       ·cases hv
        obtain ⟨x,hx,hrep⟩:=k2 j a0 hj
        exact ⟨x,hx,hrep.1,(ha x hrep.2).mono hL⟩
       ·cases hv
      ·obtain ⟨x,hx,hrep⟩:=k2 j' v hv
       exact ⟨x,hx,hrep.mono hL⟩
     ·cases hrow
    ·obtain ⟨k1,k2⟩:=h5 i' row' (by simpa [d9.row?] using hrow)
     refine ⟨k1,fun j' v hv=>?_⟩
     obtain ⟨x,hx,hrep⟩:=k2 j' v hv
     exact ⟨x,hx,hrep.mono hL⟩
  ·exact (hs.obj b' o₁ h).mono hL rfl fun _ _=>rfl
theorem a1c.c5f {P:Program} {G:Gl} {gh:Gh} {m:Option (Nat × List Nat)} {s s':St} {a:Act} (hx:a1c P G B w0 I0 gh (fun b=>b<s.nx) s a w I ι D) (hn0:gh.n0≤s.nx) (hm:∀ n l,m=some (n,l)→n=gh.n0∧∀ v av,gh.gs v av→c0x n av) (hw:Wk m s s'):
 ∃ ι' D',a1c P G B w0 I0 gh (fun b=>b<s'.nx) s' a w I ι' D':=by
 have hn:¬ D s.nx:=fun h=>absurd (hx.names _ h) (Nat.lt_irrefl _)
 have sets:∀ (t:Nat) (av:AV) (σ':b7) (ι':Nat→Option Nat) (D':Nat→Prop) (nx':Nat),t<1024→(∀ k,s.tm.get d7 t≠ .mark k)→z6 B w I ι' σ' D'→q0 w I ι s.σ D w I ι' σ' D'→e8 w I ι' σ' D' (a.tmps.getD t undef) av→(∀ b,D' b→b<nx')→(∀ b,D' b→gh.D0 b∨gh.n0≤b)→
  a1c P G B w0 I0 gh (fun b=>b<nx') ⟨s.tm.set d7 t av,σ',nx',s.nt⟩ a w I ι' D':=by
  intro t av σ' ι' D' nx' ht hmk hS hL hrep hnm hbs
  refine ⟨⟨hS,hx.core.below,hx.core.hB,hx.core.ext,hx.core.old⟩,hnm,hx.dfs,hx.size,hx.a0P,fun t' ht'=>?_,fun v av h=>(hx.ghost v av h).mono hL,hbs,hx.kept,fun p hp=>?_⟩
  ·show e8 w I ι' σ' D' _ (T.get d7 (T.set d7 s.tm t av) t')
   rw [H4,Nat.mod_eq_of_lt (show t'<2 ^ d7 from ht'),Nat.mod_eq_of_lt (show t<2 ^ d7 from ht)]
   by_cases e:t'=t
   ·subst e;rw [if_pos rfl];exact hrep
   ·rw [if_neg e];exact (hx.tm t' ht').mono hL
  ·obtain ⟨h1,h2,k,h3,h4⟩:=hx.loop p hp
   refine ⟨h1,h2,k,?_,h4⟩
   show T.get d7 (T.set d7 s.tm t av) L2=_
   rw [H4,Nat.mod_eq_of_lt (show L2<2 ^ d7 by decide),Nat.mod_eq_of_lt (show t<2 ^ d7 from ht)]
   rw [if_neg (fun e:L2=t=>hmk k (by rw [← e];exact h3))]
   exact h3
 have boxs:∀ (σ':b7) (ι':Nat→Option Nat) (D':Nat→Prop) (nx':Nat),z6 B w I ι' σ' D'→q0 w I ι s.σ D w I ι' σ' D'→(∀ b,D' b→b<nx')→(∀ b,D' b→gh.D0 b∨gh.n0≤b)→
  a1c P G B w0 I0 gh (fun b=>b<nx') ⟨s.tm,σ',nx',s.nt⟩ a w I ι' D':=by
  intro σ' ι' D' nx' hS hL hnm hbs
  exact ⟨⟨hS,hx.core.below,hx.core.hB,hx.core.ext,hx.core.old⟩,hnm,hx.dfs,hx.size,hx.a0P,fun t' ht'=>(hx.tm t' ht').mono hL,fun v av h=>(hx.ghost v av h).mono hL,hbs,hx.kept,hx.loop⟩
 have nmA:∀ b,a2l D s.nx b→b<s.nx+1:=fun b hb=>hb.elim (fun h=>Nat.lt_succ_of_lt (hx.names b h)) (fun e=>by subst e;exact Nat.lt_succ_self _)
 have bsA:∀ b,a2l D s.nx b→gh.D0 b∨gh.n0≤b:=fun b hb=>hb.elim (hx.base b) (fun e=>.inr (e ▸ hn0))
 have own0:∀ es,e8 w I (l5 ι s.nx none) (Q7 s.σ s.nx (some (.arr es [] false))) (a2l D s.nx) (.slice none 0 0) (.own s.nx 0 0):=fun es=>
  .own (.inr rfl) rfl fun o ho=>by
   rw [l6,if_pos rfl] at ho
   cases ho
   exact ⟨none,0,rfl,Nat.le_refl _,⟨Nat.le_refl _,Nat.le_refl _⟩,.inl ⟨rfl,rfl⟩⟩
 cases hw with
 | F9 n0 live h=>
   obtain ⟨e,hl⟩:=hm n0 live h
   subst e
   exact hx.b3H hl live
 | tmp t es ht h=>
   obtain ⟨hS,hL⟩:=hx.core.u6.empty (nm:=s.nx) (o:=.arr es [] false) hn rfl rfl
   refine ⟨_,_,sets t _ _ _ _ _ ht (fun k e=>by rw [e] at h;cases h) hS hL ?_ nmA bsA⟩
   rw [b1s (hx.tm t ht) h]
   exact own0 es
 | c6q t es ht h=>
   refine ⟨_,_,sets t _ _ _ _ _ ht (fun k e=>by rw [e] at h;cases h) hx.core.u6 .refl ?_ hx.names hx.base⟩
   rw [b1s (hx.tm t ht) h]
   exact .pv (b4K es)
 | box b i j es' es hb hr hj h=>
   obtain ⟨hS,hL⟩:=hx.core.u6.empty (nm:=s.nx) (o:=.arr es [] false) hn rfl rfl
   have hbn:b≠s.nx:=fun e=>hn (e ▸ hx.core.u6.dom _ _ hb)
   obtain ⟨hS2,hL2⟩:=hS.c0Q (b:=b) (a1:=.own s.nx 0 0) (by rw [l6,if_neg hbn];exact hb) hr hj (fun x hx'=>by rw [b1s hx' h];exact own0 es)
   exact ⟨_,_,boxs _ _ _ _ hS2 (hL.trans hL2) nmA bsA⟩
 | c5u b i j es' es hb hr hj h=>
   obtain ⟨hS2,hL2⟩:=hx.core.u6.c0Q (b:=b) (a1:=.pv (.sl es [])) hb hr hj (fun x hx'=>by rw [b1s hx' h];exact .pv (b4K es))
   exact ⟨_,_,boxs _ _ _ _ hS2 hL2 hx.names hx.base⟩
end
end Go.Ab
namespace Go.Ab
open Go.RowKit
section scope
variable {P:Program} {b:Frame} {a:Act} {k:List Item} {cs:List Frame} {w:World} {Q:Exit→Act→World→Prop} {F:Fence} {n:Nat}
theorem a0t {c:Code}:Go.step P (lone (b.atR a (.code (.scope c)::k)) cs w)= .next (lone (b.atR a (.code c:: .inScope c::k)) cs w):=
 step_lone_go (by simp [stepG,stepG.exec,Frame.atR])
theorem b3l {c:Code}:Go.step P (lone (b.atR a (.inScope c::k)) cs w)= .next (lone (b.atR a k) cs w):=
 step_lone_go (by simp [stepG,stepG.exec,Frame.atR])
theorem a7u {c:Code} (h:c.wpIn F n P Q a w) (hg:∀ l a w,¬ Q (.goto l) a w):(Code.scope c).wpIn F n P Q a w:=by
 intro b k cs hro hb hr
 have h0:(lone (b.atR a (.code (.scope c)::k)) cs w).fenced P F:=fenced_calm hb hr rfl
 obtain ⟨e,a₁,w₁,hq,harr⟩:=h b (.inScope c::k) cs hro hb hr
 cases e with
 | normal=>exact ⟨.normal,a₁,w₁,hq,.head h0 a0t (StepsIn.trans harr (.one (fenced_calm hb hr rfl) b3l))⟩
 | exit id=>
   have hx:exitTo id (.inScope c::k)=exitTo id k:=by simp [exitTo]
   exact ⟨.exit id,a₁,w₁,hq,fun k' hk=>.head h0 a0t (harr.1 k' (by rw [hx];exact hk)),
    fun hr' hk=>let ⟨k₁,h1,h2⟩:=harr.2 hr' (by rw [hx];exact hk);⟨k₁,h1,.head h0 a0t h2⟩⟩
 | goto l=>exact (hg _ _ _ hq).elim
 | ret=>exact ⟨_,a₁,w₁,hq,.of_steps (.one h0 a0t) harr⟩
 | panic ch=>exact ⟨_,a₁,w₁,hq,.of_steps (.one h0 a0t) harr⟩
 | outgrown=>exact ⟨_,a₁,w₁,hq,.of_steps (.one h0 a0t) harr⟩
def a5j (F:Fence) (n:Nat) (P:Program) (c:Code) (Q:Exit→Act→World→Prop) (a:Act) (w:World):Prop:=
 ∀ (b:Frame) (k:List Item) (cs:List Frame),b.roundOf=F.round→F.fn b.fn→F.room (cs.length+1+n)→
   ∃ e a' w',Q e a' w'∧ArrivesIn (Machine.fenced P F) P (lone (b.atR a (.code c:: .inLoop c::k)) cs w) b k cs e a' w'
theorem a5j.wpIn {c:Code} (h:a5j F n P c Q a w):(Code.loop c).wpIn F n P Q a w:=fun b k cs hro hb hr=>
 let ⟨e,a',w',q,r⟩:=h b k cs hro hb hr;⟨e,a',w',q,.of_steps (.one (fenced_calm hb hr rfl) stepR_loop) r⟩
theorem a5j.round {c:Code} (h:c.wpIn F n P (Exit.then (a5j F n P c Q) Q) a w):a5j F n P c Q a w:=by
 intro b k cs hro hb hr
 obtain ⟨e,a₁,w₁,hq,harr⟩:=h b (.inLoop c::k) cs hro hb hr
 cases e with
 | normal=>
   obtain ⟨e₂,a₂,w₂,hq₂,harr₂⟩:=hq b k cs hro hb hr
   exact ⟨e₂,a₂,w₂,hq₂,.of_steps (StepsIn.trans harr (.one (fenced_calm hb hr rfl) stepR_inLoop)) harr₂⟩
 | exit id=>exact ⟨_,a₁,w₁,hq,.pass (x:=.inLoop c) rfl (fun _ _=>.inl (by simp)) harr⟩
 | goto l=>exact ⟨_,a₁,w₁,hq,.pass (x:=.inLoop c) rfl (fun _ _=>.inl (by simp)) harr⟩
 | ret=>exact ⟨_,a₁,w₁,hq,.pass (x:=.inLoop c) rfl (fun _ _=>.inl (by simp)) harr⟩
 | panic ch=>exact ⟨_,a₁,w₁,hq,.pass (x:=.inLoop c) rfl (fun _ _=>.inl (by simp)) harr⟩
 | outgrown=>exact ⟨_,a₁,w₁,hq,.pass (x:=.inLoop c) rfl (fun _ _=>.inl (by simp)) harr⟩
end scope
def a1t (P:Program) (nt:Nat):Code→RC→Bool
 | .skip,.skip=>true
 | .label _,.skip=>true
 | .region _ ops d,.b6 rs d'=>(d==d'&&b1E P nt ops rs d)||(d&&(!d'&&b4h P nt ops rs))
 | .seq a b,.seq a' b'=>a1t P nt a a'&&a1t P nt b b'
 | .cond c a b,.cond c' a' b'=>i7 c c'&&(a1t P nt a a'&&a1t P nt b b')
 | .block i b,.block j b'=>i==j&&a1t P nt b b'
 | .loop b,.loop _ b'=>a1t P nt b b'
 | .rangeFunc g ps a b,.rng f ps' a' b'=>i7 g f&&(ps.toList==ps'&&(ps'.all (fun t=>decide (t<nt)&&decide (t<1024))&&(a1t P nt a a'&&a1t P nt b b')))
 | .exit i,.exit j=>i==j
 | .scope b,.scope b'=>a1t P nt b b'
 | .ret,.ret=>true
 | _,_=>false
section
variable {P:Program} {G:Gl} {B:Nat} {w0:World} {I0:v9} {gh:Gh} {nt n:Nat} {ro:Option Nat}
def a4F:List Nat→List AV→T→T
 | p::ps,a::as,tm=>a4F ps as (tm.set d7 p a)
 | _,_,tm=>tm
theorem b2E {α:Sort _}:∀ (ps:List Nat) (as:List AV) (tm:T) (K:T→α),b0T ps as tm K=K (a4F ps as tm)
 | p::ps,a::as,tm,K=>by simp only [b0T,a4F,E3,Z3];exact b2E ps as _ K
 | [],_,_,_=>by simp [b0T,a4F]
 | _::_,[],_,_=>by simp [b0T,a4F]
theorem b3O {w:World} {I:v9} {ι:Nat→Option Nat} {σ:b7} {D:Nat→Prop}:∀ (ps:List Nat) (xs:List Value) (as:List AV) (tmps:Array Value) (tm:T),xs.length=as.length→(∀ p ∈ ps,p<tmps.size∧p<1024)→
 (∀ (j:Nat) (x:Value) (q:AV),xs[j]?=some x→as[j]?=some q→e8 w I ι σ D x q)→(∀ t,t<1024→e8 w I ι σ D (tmps.getD t undef) (tm.get d7 t))→
 ((ps.zip xs).foldl (fun tmps x=>tmps.setIfInBounds x.1 x.2) tmps).size=tmps.size∧∀ t,t<1024→e8 w I ι σ D (((ps.zip xs).foldl (fun tmps x=>tmps.setIfInBounds x.1 x.2) tmps).getD t undef) ((a4F ps as tm).get d7 t)
 | p::ps,x::xs,a::as,tmps,tm,hl,hp,ha,ht=>by
   simp only [List.zip_cons_cons,List.foldl_cons,a4F]
   obtain ⟨h1,h2⟩:=hp p (by simp)
   have:=b3O ps xs as (tmps.setIfInBounds p x) (tm.set d7 p a) (by simpa using hl) (fun q hq=>by simpa using hp q (by simp [hq])) (fun j y q hy hq=>ha (j+1) y q (by simpa using hy) (by simpa using hq)) (fun t htl=>by
    rw [H4]
    have e1:t % 2 ^ d7=t:=Nat.mod_eq_of_lt htl
    have e2:p % 2 ^ d7=p:=Nat.mod_eq_of_lt h2
    rw [e1,e2]
    by_cases e:t=p
    ·subst e
     rw [if_pos rfl]
     have:(tmps.setIfInBounds t x).getD t undef=x:=by simp [Array.getD,h1]
     rw [this];exact ha 0 x a rfl rfl
    ·rw [if_neg e]
     have:(tmps.setIfInBounds p x).getD t undef=tmps.getD t undef:=by
      simp only [Array.getD_eq_getD_getElem?]
      rw [Array.getElem?_setIfInBounds_ne (fun h=>e h.symm)]
     rw [this];exact ht t htl)
   exact ⟨by rw [this.1];simp,this.2⟩
 | [],_,_,tmps,tm,_,_,_,ht=>by simp only [List.zip_nil_left,List.foldl_nil,a4F];exact ⟨trivial,ht⟩
 | _::_,[],[],tmps,tm,_,_,_,ht=>by simp only [List.zip_nil_right,List.foldl_nil,a4F];exact ⟨trivial,ht⟩
 | _::_,[],_::_,_,_,hl,_,_,_=>by simp at hl
 | _::_,_::_,[],_,_,hl,_,_,_=>by simp at hl
variable (P G B w0 I0 gh nt) in
def a1V (s:St) (a:Act) (w:World):Prop:=s.nt=nt∧gh.n0≤s.nx∧Sim P G B w0 I0 gh (fun b=>b<s.nx) s a w
theorem a1V.c5f {m:Option (Nat × List Nat)} {s s':St} {a:Act} {w:World} (hm:∀ n l,m=some (n,l)→n=gh.n0∧∀ v av,gh.gs v av→c0x n av) (h:a1V P G B w0 I0 gh nt s a w) (hw:Wk m s s'):a1V P G B w0 I0 gh nt s' a w:=by
 obtain ⟨h1,h2,I,ι,D,hx⟩:=h
 obtain ⟨ι',D',hx'⟩:=hx.c5f h2 hm hw
 refine ⟨?_,?_,I,ι',D',hx'⟩
 ·cases hw <;>exact h1
 ·cases hw with
  | F9 n0 live h=>
    rw [(hm n0 live h).1]
    show gh.n0≤(a5Y gh.n0 live s).length
    unfold a5Y
    simp
  | tmp=>exact Nat.le_succ_of_le h2
  | c6q=>exact h2
  | box=>exact Nat.le_succ_of_le h2
  | c5u=>exact h2
variable (P G B w0 I0 gh nt) in
def b0P (Q:Ex→St→Prop):Exit→Act→World→Prop
 | .normal,a,w=>∃ s,Q .normal s∧a1V P G B w0 I0 gh nt s a w
 | .exit i,a,w=>∃ s,Q (.exit i) s∧a1V P G B w0 I0 gh nt s a w
 | .ret,a,w=>∃ s,Q .ret s∧a1V P G B w0 I0 gh nt s a w
 | _,_,_=>False
theorem a3e.counts {Ok:Nat→List PV→Own→PV→Prop} {ins:Nat→m7} {nmf:Nat→Nat} {dat:Nat→Dat}:∀ (L:List Nat) {st sf:St},a3e G Ok ins nmf dat L st sf→sf.nx=st.nx∧sf.nt=st.nt
 | [],_,_,h=>⟨h.nx,h.nt⟩
 | i::L,st,sf,h=>by
   have:=a3e.counts L h.2
   simp only [W0,after,a9w,a1S] at this
   exact this
theorem b8V {E:Env} {F9:Bool} (hE:a3d P G E ro B w0 I0 gh) (hm:P.follows .mixedOrders=true) {id:Nat} {ops:Array Oper} {rs:List m7} {draw:Bool} (hk:b1E P nt ops rs draw=true) {Q:Ex→St→Prop} {s:St} {a:Act} {w:World}
 (h:aw G (l3 P G) (.b6 rs draw) F9 E Q s) (hs:a1V P G B w0 I0 gh nt s a w):(Code.region id ops draw).wpIn (Fw ro) n P (b0P P G B w0 I0 gh nt Q) a w:=by
 obtain ⟨hnt,hn0,hsim⟩:=hs
 obtain ⟨tm,σ,nx,nt'⟩:=s
 simp only at hnt hn0
 subst hnt
 simp only [aw,j7] at h
 simp only [b1E,Bool.and_eq_true,Bool.or_eq_true,Bool.not_eq_true'] at hk
 obtain ⟨hall,hdr⟩:=hk
 obtain ⟨hlen,hins⟩:=a6o hall
 have hsz:rs.length=ops.size:=by rw [← hlen];simp
 have hgetD:∀ i r,rs[i]?=some r→rs.getD i default=r:=fun i r h=>by simp [List.getD,h]
 have hins':∀ i o,ops[i]?=some o→a1v P ops nt' o (rs.getD i default)=true:=by
  intro i o ho
  have hlt:i<rs.length:=by rw [hsz];exact (Array.getElem?_eq_some_iff.1 ho).1
  rw [hgetD i _ (List.getElem?_eq_getElem hlt)]
  exact hins i o _ (by simpa using ho) (List.getElem?_eq_getElem hlt)
 have hnew:∀ b,b<nx→∀ j,¬ Names (nx+g9*j) b:=fun b hb j hn=>by have h2:=hn.1;omega
 cases draw with
 | false=>
   simp only at h
   refine wpIn_region ?_
   rw [List.range_eq_range',← hsz]
   refine b2x (nx0:=nx) (KK:=Q .normal) hE rs hsz hins' hn0 (fun s' a' w' hq hnt' hnx' hs=>⟨s',hq,hnt',by omega,hs⟩) rs 0 _ a w rfl (by omega) rfl (by rw [hsz];exact Nat.le_refl _) h ?_
   obtain ⟨I,ι,D,hx⟩:=hsim
   exact ⟨I,ι,D,hx.core,fun b hb=>⟨Nat.lt_of_lt_of_le (hx.names b hb) (Nat.le_add_right _ _),fun j _=>hnew b (hx.names b hb) j⟩,hx.dfs,hx.size,hx.a0P,hx.tm,hx.ghost,hx.base,hx.kept,hx.loop⟩
 | true=>
   simp only at h
   obtain ⟨dat,sf,hrun,hq,hcomp⟩:=b5K rs nx true rs 0 [] _ _ rfl h
   obtain ⟨hfx,hft⟩:=hrun.counts
   simp only at hfx hft
   have hQ:∀ a' w',Sim P G B w0 I0 gh (fun b=>b<nx+g9*ops.size) sf a' w'→b0P P G B w0 I0 gh nt' Q .normal a' w':=fun a' w' hs=>
    ⟨sf,hq,hft,by rw [hfx];omega,hs.weaken fun b hb=>by rw [hfx,hsz];exact hb⟩
   have hsim':∀ w',Sim P G B w0 I0 gh (fun b=>b<nx) ⟨tm,σ,nx,nt'⟩ a w'→Sim P G B w0 I0 gh (NL nx (nx+g9*ops.size) (List.range' 0 ops.size)) ⟨tm,σ,nx+g9*ops.size,nt'⟩ a w':=by
    intro w' hs
    obtain ⟨I,ι,D,hx⟩:=hs
    exact ⟨I,ι,D,hx.core,fun b hb=>⟨Nat.lt_of_lt_of_le (hx.names b hb) (Nat.le_add_right _ _),fun j _=>hnew b (hx.names b hb) j⟩,hx.dfs,hx.size,hx.a0P,hx.tm,hx.ghost,hx.base,hx.kept,hx.loop⟩
   rw [hsz] at hrun
   have hdr:a6l [] rs=true∧a7T rs 0 ops.toList rs=true:=by simpa using hdr
   refine wpIn_region_any hm ?_
   have hpre:∀ i o,ops[i]?=some o→(∀ x,(rs.getD i default).pre.testBit x=true→∃ e ∈ o.after.toList,Region.binds .any e=true∧(e.on=x∨(rs.getD e.on default).pre.testBit x=true))∧∀ e ∈ o.after.toList,Region.binds .any e=true→e.on<i:=by
    intro i o ho
    have hlt:i<rs.length:=by rw [hsz];exact (Array.getElem?_eq_some_iff.1 ho).1
    rw [hgetD i _ (List.getElem?_eq_getElem hlt)]
    have:=a6q hdr.2 i o _ (by simpa using ho) (List.getElem?_eq_getElem hlt)
    simpa using this
   have hcomp:=hcomp rfl
   refine b6P hins' hpre (fun i j hij hj=>?_) (fun i j hij hj hc=>?_) hn0 hQ ops.size _ (List.range' 0 ops.size) _ a _ (by simp) (by simp) List.pairwise_lt_range' (fun i=>?_) (fun j hj hl=>?_) rfl hrun (hsim' _ hsim.drew)
   ·have h1:i<rs.length:=by omega
    have h2:j<rs.length:=by omega
    rw [hgetD i _ (List.getElem?_eq_getElem h1),hgetD j _ (List.getElem?_eq_getElem h2)]
    exact a4c rs [] hdr.1 i j _ _ hij (by simp) (by simp) (by simp)
   ·have g:∀ k,k<rs.length→(([]:List Rec)++(List.range' 0 rs.length).map fun i=>(dat i).a2j (rs.getD i default))[k]?=some ((dat k).a2j (rs.getD k default)):=by
     intro k hk
     simp [hk]
    exact b0G _ [] hcomp i j _ _ hij (by simp) (g i (by omega)) (g j (by omega)) hc
   ·rw [List.mem_range'_1]
    constructor
    ·intro h;exact ⟨by omega,by simp [Array.getD,show i<ops.size by omega]⟩
    ·intro h;exact ⟨Nat.zero_le _,by omega⟩
   ·simp [hj] at hl
theorem b6s {E:Env} {F9:Bool} (hE:a3d P G E ro B w0 I0 gh) (hm:P.follows .mixedOrders=true) {id:Nat} {ops:Array Oper} {rs:List m7} (hk:b4h P nt ops rs=true) {Q:Ex→St→Prop} {s:St} {a:Act} {w:World}
 (h:aw G (l3 P G) (.b6 rs false) F9 E Q s) (hs:a1V P G B w0 I0 gh nt s a w):(Code.region id ops true).wpIn (Fw ro) n P (b0P P G B w0 I0 gh nt Q) a w:=by
 obtain ⟨hnt,hn0,hsim⟩:=hs
 obtain ⟨tm,σ,nx,nt'⟩:=s
 simp only at hnt hn0
 subst hnt
 simp only [aw,j7] at h
 simp only [b4h,b1E,Bool.and_eq_true,Bool.or_eq_true,Bool.not_eq_true',Bool.true_eq_false,false_or] at hk
 obtain ⟨⟨hall,hdr⟩,hcalm⟩:=hk
 obtain ⟨hlen,hins⟩:=a6o hall
 have hsz:rs.length=ops.size:=by rw [← hlen];simp
 have hgetD:∀ i r,rs[i]?=some r→rs.getD i default=r:=fun i r h=>by simp [List.getD,h]
 have hins':∀ i o,ops[i]?=some o→a1v P ops nt' o (rs.getD i default)=true:=by
  intro i o ho
  have hlt:i<rs.length:=by rw [hsz];exact (Array.getElem?_eq_some_iff.1 ho).1
  rw [hgetD i _ (List.getElem?_eq_getElem hlt)]
  exact hins i o _ (by simpa using ho) (List.getElem?_eq_getElem hlt)
 have hnew:∀ b,b<nx→∀ j,¬ Names (nx+g9*j) b:=fun b hb j hn=>by have h2:=hn.1;omega
 refine wpIn_region_any hm ?_
 have hpre:∀ i o,ops[i]?=some o→(∀ x,(rs.getD i default).pre.testBit x=true→∃ e ∈ o.after.toList,Region.binds .any e=true∧(e.on=x∨(rs.getD e.on default).pre.testBit x=true))∧∀ e ∈ o.after.toList,Region.binds .any e=true→e.on<i:=by
  intro i o ho
  have hlt:i<rs.length:=by rw [hsz];exact (Array.getElem?_eq_some_iff.1 ho).1
  rw [hgetD i _ (List.getElem?_eq_getElem hlt)]
  have:=a6q hdr.2 i o _ (by simpa using ho) (List.getElem?_eq_getElem hlt)
  simpa using this
 have hrun:=c2K (G:=G) (nx0:=nx) rs rs 0 _ _ rfl h
 rw [hsz] at hrun
 refine b5Q (nx0:=nx) (KK:=Q .normal) hE hins' hpre (fun i j hij hj=>?_) (fun i j hij hj=>?_) hn0 (fun s' a' w' hq hnt' hnx' hs=>⟨s',hq,hnt',by omega,hs⟩) ops.size _ (List.range' 0 ops.size) _ a _ (by simp) (by simp) List.pairwise_lt_range' (fun i=>?_) (fun j hj hl=>?_) rfl (by simp) hrun ?_
 ·have h1:i<rs.length:=by omega
  have h2:j<rs.length:=by omega
  rw [hgetD i _ (List.getElem?_eq_getElem h1),hgetD j _ (List.getElem?_eq_getElem h2)]
  exact a4c rs [] hdr.1 i j _ _ hij (by simp) (by simp) (by simp)
 ·have h1:i<rs.length:=by omega
  have h2:j<rs.length:=by omega
  rw [hgetD i _ (List.getElem?_eq_getElem h1),hgetD j _ (List.getElem?_eq_getElem h2)]
  exact a8H rs [] hcalm i j _ _ hij (by simp) (by simp) (by simp)
 ·rw [List.mem_range'_1]
  constructor
  ·intro h;exact ⟨by omega,by simp [Array.getD,show i<ops.size by omega]⟩
  ·intro h;exact ⟨Nat.zero_le _,by omega⟩
 ·simp [hj] at hl
 ·obtain ⟨I,ι,D,hx⟩:=hsim.drew
  exact ⟨I,ι,D,hx.core,fun b hb=>⟨Nat.lt_of_lt_of_le (hx.names b hb) (Nat.le_add_right _ _),fun j _=>hnew b (hx.names b hb) j⟩,hx.dfs,hx.size,hx.a0P,hx.tm,hx.ghost,hx.base,hx.kept,hx.loop⟩
def Sound (P:Program) (G:Gl) (B:Nat) (w0:World) (I0:v9) (nt:Nat) (rc:RC):Prop:=
 ∀ (code:Code),a1t P nt code rc=true→∀ (n:Nat) (ro:Option Nat) (gh:Gh) (E:Env) (F9:Bool),a3d P G E ro B w0 I0 gh→(F9=true→gh=Gh.top)→
   ∀ (Q:Ex→St→Prop) (s:St) (a:Act) (w:World),aw G (l3 P G) rc F9 E Q s→a1V P G B w0 I0 gh nt s a w→code.wpIn (Fw ro) n P (b0P P G B w0 I0 gh nt Q) a w
theorem c5g {E:Env} {p:a4b} {ps:List Nat} {x y:RC} {tm:T} (ihx:Sound P G B w0 I0 nt x) (ihy:Sound P G B w0 I0 nt y) (hinl:a3H P G E.inl) (hkx:a1t P nt p.data.assign x=true) (hky:a1t P nt p.data.body y=true)
 (hps:p.data.params.toList=ps) (hall:∀ t ∈ ps,t<nt∧t<1024) (hsz:p.data.tmps.size=nt) {gs:Value→AV→Prop} (hgs:∀ t,t<1024→gs (p.data.tmps.getD t undef) (tm.get d7 t)) (hBl:B≤p.l):
 b9N P G p (fun args σ₁ nx₁ K=>match args.length==ps.length with
       | true=>b0T ps args tm fun tm'=>aw G (l3 P G) x false ⟨E.inl,fun _=>none,none,none⟩ (Ex.then (aw G (l3 P G) y false ⟨E.inl,fun _=>none,none,none⟩ (c5A K)) fun _ _=>False) ⟨tm',σ₁,nx₁,nt⟩
       | false=>False) B w0 I0 gs:=by
 intro args σ₁ nx₁ K hh gs' w₂ I₂ ι₂ D₂ vs hgs' hc hDn hgl hvl har hgr hrec
 split at hh
 ·rename_i hlen
  rw [beq_iff_eq] at hlen
  rw [b2E] at hh
  have hpsz:vs.size=p.data.params.size:=by rw [hvl,hlen,← hps];simp
  refine ⟨hpsz,roundIn_of_wpIn trivial ?_⟩
  have hE1:∀ gh1:Gh,a3d P G ⟨E.inl,fun _=>none,none,none⟩ (some p.l) B w0 I0 gh1:=fun gh1=>⟨hinl,fun g it h=>(by cases h),fun _ _ _=>rfl,fun b h e=>(by cases e),fun n h=>(by cases h)⟩
  have hfold:(p.data.params.zip vs).foldl (fun tmps (x:Tmp × Value)=>tmps.setIfInBounds x.1 x.2) p.data.tmps=(ps.zip vs.toList).foldl (fun tmps x=>tmps.setIfInBounds x.1 x.2) p.data.tmps:=by
   rw [← Array.foldl_toList,Array.toList_zip,hps]
  obtain ⟨q1,q2⟩:=b3O (w:=w₂) (I:=I₂) (ι:=ι₂) (σ:=σ₁) (D:=D₂) ps vs.toList args p.data.tmps tm (by simpa using hvl) (fun t ht=>by rw [hsz];exact hall t ht) (fun j x q hx hq=>har j x q (by simpa using hx) hq) (fun t ht=>hgr _ _ (hgs' _ _ (hgs t ht)))
  have sim1:a1V P G B w0 I0 ⟨gs',D₂,nx₁,fun r o=>still o=true∧w₂.heap[r]?=some o,none⟩ nt ⟨a4F ps args tm,σ₁,nx₁,nt⟩ {tmps:=(p.data.params.zip vs).foldl (fun tmps (x:Tmp × Value)=>tmps.setIfInBounds x.1 x.2) p.data.tmps,defers:=[]} w₂:=by
   rw [hfold]
   exact ⟨rfl,Nat.le_refl _,I₂,ι₂,D₂,hc,hDn,⟨[],rfl,List.nodup_nil,fun r h=>by cases h⟩,q1.trans hsz,hgl,q2,hgr,fun b h=>.inl h,fun r o h=>h,fun _ h=>by cases h⟩
  refine wpIn_mono (ihx _ hkx 0 (some p.l) _ _ false (hE1 _) (fun h=>by cases h) _ _ _ _ hh sim1) fun e a₁ w₃ he=>?_
  cases e with
  | normal=>
    obtain ⟨s₁,hs₁,hnt1,hn1,I₃,ι₃,D₃,hx₃⟩:=he
    have hr₃:w₃.heap[p.l]?=some (.loop (p.at 0)):=(hx₃.kept p.l _ ⟨rfl,hrec⟩).2
    have hlt:p.l<w₃.heap.size:=(Array.getElem?_eq_some_iff.1 hr₃).1
    refine ⟨w₃.putObj p.l (.loop {p.at 0 with state:=.busy}),run_beginRound hr₃ rfl,?_⟩
    have ho:∀ (w:World) (o':Obj) (k:Nat),k≠p.l→(w.putObj p.l o').heap[k]?=w.heap[k]?:=fun w o' k h=>World.putObj_heap_other h
    have hmv:∀ (w:World) (o':Obj) (l:Loop),w.heap[p.l]?=some (.loop l)→∀ (r:Nat) (o:Obj),w.heap[r]?=some o→still o=false→(w.putObj p.l o').heap[r]?=some o:=fun w o' l hl r o hr hst=>by
     rw [ho _ _ _ fun e=>by subst e;rw [hl] at hr;cases hr;cases hst];exact hr
    have hbl:∀ (w:World) (o':Obj),Below B w (w.putObj p.l o'):=fun w o'=>⟨rfl,rfl,rfl,by simp,fun k hk=>ho w o' k (by omega)⟩
    obtain ⟨hc₃,hL₃⟩:=hx₃.core.move (ι':=ι₃) (D':=D₃) (hmv w₃ (.loop {p.at 0 with state:=.busy}) _ hr₃) (by simp) (hbl _ _) (fun _ _=>rfl) (fun _ h=>h)
    have sim2:a1V P G B w0 I0 ⟨gs',D₂,nx₁,fun r o=>(still o=true∧w₂.heap[r]?=some o∧r≠p.l)∨(r=p.l∧o= .loop {p.at 0 with state:=.busy}),none⟩ nt s₁ a₁ (w₃.putObj p.l (.loop {p.at 0 with state:=.busy})):=by
     refine ⟨hnt1,hn1,I₃,ι₃,D₃,hc₃,hx₃.names,?_,hx₃.size,hx₃.a0P.mono hL₃.keeps,fun t ht=>(hx₃.tm t ht).a3U hL₃,fun v av hg=>(hx₃.ghost v av hg).a3U hL₃,hx₃.base,fun r o hk=>?_,fun _ h=>by cases h⟩
     ·obtain ⟨rs,h1,h2,h3⟩:=hx₃.dfs
      have hne:∀ r ∈ rs,r≠p.l:=fun r hr e=>by have:=(h3 r hr).2.2;rw [e,hr₃] at this;cases this
      refine ⟨rs,h1,h2,fun r hr=>⟨(h3 r hr).1,fun o hk=>?_,by rw [ho _ _ _ (hne r hr)];exact (h3 r hr).2.2⟩⟩
      rcases hk with ⟨k1,k2,k3⟩ | ⟨k1,k2⟩
      ·exact (h3 r hr).2.1 o ⟨k1,k2⟩
      ·exact hne r hr k1
     ·rcases hk with ⟨k1,k2,k3⟩ | ⟨k1,k2⟩
      ·exact ⟨k1,by rw [ho _ _ _ k3];exact (hx₃.kept r o ⟨k1,k2⟩).2⟩
      ·subst k1;subst k2;exact ⟨rfl,World.putObj_heap_same hlt⟩
    have fin:∀ (s₂:St) (a₂:Act) (w₄:World) (jump:Option Code) (pd:Nat),a1V P G B w0 I0 ⟨gs',D₂,nx₁,fun r o=>(still o=true∧w₂.heap[r]?=some o∧r≠p.l)∨(r=p.l∧o= .loop {p.at 0 with state:=.busy}),none⟩ nt s₂ a₂ w₄→
     p.at pd={p.at 0 with state:=if jump.isNone then .ready else .done,pending:=jump}→K (.pv (.bool jump.isNone)) s₂.σ s₂.nx pd→
     ∃ v w',(Instr.endRound p.l jump).run P w₄= .ok v w'∧b4a P G B w0 I0 p gs' D₂ w₂ nx₁ K (.returned v) w':=by
     intro s₂ a₂ w₄ jump pd ⟨_,hn2,I₄,ι₄,D₄,hx₄⟩ hp hK
     have hr₄:w₄.heap[p.l]?=some (.loop {p.at 0 with state:=.busy}):=(hx₄.kept p.l _ (.inr ⟨rfl,rfl⟩)).2
     have hlt:p.l<w₄.heap.size:=(Array.getElem?_eq_some_iff.1 hr₄).1
     refine ⟨_,_,run_endRound jump hr₄,?_⟩
     obtain ⟨hc₄,hL₄⟩:=hx₄.core.move (ι':=ι₄) (D':=D₄) (hmv w₄ (.loop {p.at 0 with state:=if jump.isNone then .ready else .done,pending:=jump}) _ hr₄) (by simp) (hbl _ _) (fun _ _=>rfl) (fun _ h=>h)
     exact ⟨_,_,_,pd,I₄,ι₄,D₄,hK,hc₄,hn2,fun b hb=>(hx₄.base b hb).elim .inl fun h=>.inr ⟨h,hx₄.names b hb⟩,.pv (.bool _),hx₄.a0P.mono hL₄.keeps,fun x a hg=>(hx₄.ghost x a hg).a3U hL₄,
      fun r o hne hst hr=>by rw [ho _ _ _ hne];exact (hx₄.kept r o (.inl ⟨hst,hr,hne⟩)).2,by rw [hp];exact World.putObj_heap_same hlt⟩
    refine wpIn_mono (ihy _ hky 0 (some p.l) _ _ false (hE1 _) (fun h=>by cases h) _ _ _ _ hs₁ sim2) fun e a₂ w₄ he=>?_
    cases e with
    | normal=>obtain ⟨s₂,hs₂,hsim⟩:=he;exact fin s₂ a₂ w₄ none 0 hsim rfl hs₂
    | ret=>obtain ⟨s₂,hs₂,hsim⟩:=he;exact fin s₂ a₂ w₄ (some .ret) 1 hsim rfl hs₂
    | exit i=>obtain ⟨s₂,hs₂,hsim⟩:=he;exact fin s₂ a₂ w₄ (some (.exit i)) (i+2) hsim rfl hs₂
    | goto l=>exact he.elim
    | panic c=>exact he.elim
    | outgrown=>exact he.elim
  | exit i=>obtain ⟨s₁,hs₁,_⟩:=he;exact hs₁.elim
  | ret=>obtain ⟨s₁,hs₁,_⟩:=he;exact hs₁.elim
  | goto l=>exact he.elim
  | panic c=>exact he.elim
  | outgrown=>exact he.elim
 ·exact hh.elim
theorem b8Z {f:RA} {ps:List Nat} {x y:RC} (ihx:Sound P G B w0 I0 nt x) (ihy:Sound P G B w0 I0 nt y) {g:Operand} {prm:Array Tmp} {as bd:Code}
 (hk:(i7 g f&&(prm.toList==ps&&(ps.all (fun t=>decide (t<nt)&&decide (t<1024))&&(a1t P nt as x&&a1t P nt bd y))))=true) {E:Env} {F9:Bool} (hE:a3d P G E ro B w0 I0 gh) {Q:Ex→St→Prop} {s:St} {a:Act} {w:World}
 (h:aw G (l3 P G) (.rng f ps x y) F9 E Q s) (hs:a1V P G B w0 I0 gh nt s a w):(Code.rangeFunc g prm as bd).wpIn (Fw ro) n P (b0P P G B w0 I0 gh nt Q) a w:=by
 simp only [Bool.and_eq_true,beq_iff_eq,List.all_eq_true,decide_eq_true_eq] at hk
 obtain ⟨hf,hps,hall,hkx,hky⟩:=hk
 obtain ⟨tm,σ,nx,nt'⟩:=s
 simp only [aw] at h
 split at h
 ·rename_i gi fa fb hca
  split at h
  ·rename_i it hit
   have hro:ro=none:=by
    cases ro with
    | none=>rfl
    | some l=>have:=hE.none l rfl gi;rw [hit] at this;cases this
   subst hro
   obtain ⟨hnt,hn0,I,ι,D,hx⟩:=hs
   simp only at hnt hn0
   subst hnt
   rw [j7] at h
   refine wpIn_rangeFunc fun fn _=>?_
   obtain ⟨xs,ys,hxf,hxl,hyl,hxr,hyr⟩:=a7S hca (hx.eval hf)
   let p:a4b:=⟨nx,w.heap.size+1,{state:=.ready,pending:=none,fn,tmps:=a.tmps,params:=prm,assign:=as,body:=bd,defers:=w.heap.size}⟩
   let w₁:=(w.alloc (.deferred (some []))).alloc (.loop p.data)
   have hw₁:∀ (r:Nat) (o:Obj),w.heap[r]?=some o→w₁.heap[r]?=some o:=fun r o hr=>by
    have hlt:=(Array.getElem?_eq_some_iff.1 hr).1
    rw [Below.heap_alloc _ _ _ (by simp;omega),Below.heap_alloc _ _ _ hlt];exact hr
   have hBw:B≤w.heap.size:=Nat.le_trans hx.core.hB hx.core.below.size
   have hbl₁:Below B w w₁:=((Below.refl B w).alloc hBw _).alloc (by simp;omega) _
   have hrec₁:w₁.heap[p.l]?=some (.loop (p.at 0)):=by
    have:=World.alloc_heap_new (w.alloc (.deferred (some []))) (.loop p.data)
    rw [World.size_alloc] at this
    exact this
   have hdef₁:w₁.heap[w.heap.size]?=some (.deferred (some [])):=by
    rw [Below.heap_alloc _ _ _ (by simp)]
    exact World.alloc_heap_new w (.deferred (some []))
   let ι':Nat→Option Nat:=fun b=>if b=nx then some p.l else ι b
   let D':Nat→Prop:=fun b=>D b∨b=nx
   have hDlt:∀ b,D b→b<nx:=hx.names
   obtain ⟨hc₁,hL₁⟩:=hx.core.move (w':=w₁) (ι':=ι') (D':=D') (fun r o hr _=>hw₁ r o hr) (by simp [w₁];omega) hbl₁ (fun b hb=>if_neg (by have:=hDlt b hb;omega)) (fun b h=>.inl h)
   let yv:Value:=.func (.yield p.l) #[] #[]
   have hyl':e8 w₁ I ι' σ D' yv (.yld nx):=.yld (.inr rfl) ⟨p.l,if_pos rfl,rfl⟩
   let gs:Value→AV→Prop:=fun v av=>gh.gs v av∨(∃ t,t<1024∧v=a.tmps.getD t undef∧av=tm.get d7 t)∨(v=yv∧av= .yld p.b)
   have hsza:a.tmps.size=nt':=hx.size
   obtain ⟨henter,hcalls⟩:=hE.itr gi it hit nx _ _ _ _ _ h B w0 I0 gs p w₁ I ι' D' (xs++#[yv]++ys) hc₁ (fun b hb=>by rcases hb with hb | rfl;have:=hDlt b hb;omega;omega) (hx.a0P.mono hL₁.keeps)
    (by simp only [Array.size_append,List.length_append,hxl,hyl];rfl)
    (fun j z q hz hq=>by
     by_cases h1:j<fa.length
     ·rw [List.getElem?_append_left (by simp;omega),List.getElem?_append_left h1] at hq
      rw [Array.getElem?_append_left (by simp;omega),Array.getElem?_append_left (by omega)] at hz
      exact (hxr j z q hz hq).a3U hL₁
     ·by_cases h2:j=fa.length
      ·rw [List.getElem?_append_left (by simp;omega),List.getElem?_append_right (by omega)] at hq
       rw [Array.getElem?_append_left (by simp;omega),Array.getElem?_append_right (by omega)] at hz
       have e1:j - fa.length=0:=by omega
       have e2:j - xs.size=0:=by omega
       rw [e1] at hq
       rw [e2] at hz
       simp at hq hz
       subst hq;subst hz
       exact hyl'
      ·rw [List.getElem?_append_right (by simp;omega)] at hq
       rw [Array.getElem?_append_right (by simp;omega)] at hz
       simp only [List.length_append,List.length_cons,List.length_nil,Array.size_append] at hq hz
       have e:xs.size+#[yv].size=fa.length+(0+1):=by rw [hxl];rfl
       rw [e] at hz
       exact (hyr _ z q hz hq).a3U hL₁)
    (fun v av hv=>by
     rcases hv with hv | ⟨t,ht,rfl,rfl⟩ | ⟨rfl,rfl⟩
     ·exact (hx.ghost v av hv).a3U hL₁
     ·exact (hx.tm t ht).a3U hL₁
     ·exact hyl') rfl (.inr (.inr ⟨rfl,rfl⟩)) (by show B≤w.heap.size+1;omega) hrec₁
    (c5g ihx ihy hE.inl hkx hky hps hall hsza (fun t ht=>.inr (.inl ⟨t,ht,rfl,rfl⟩)) (by show B≤w.heap.size+1;omega))
   refine ⟨w.heap.size+1,[{target:=.collected w.heap.size,args:=#[]}],w₁,{target:=.fn (.func gi) ys,args:=xs++#[yv]},w₁,gi,xs++#[yv]++ys,w₁,run_enterLoop_outer fn a.tmps prm as bd,?_,fun _ _=>trivial,henter w₁,fun h=>by simp [Fence.wide] at h,?_⟩
   ·have e:Array.map a.eval #[Operand.const yv]=#[yv]:=by simp [Act.eval]
    simp only [resolve,hxf,Deferred.ofValue,Sem.run_pure]
    show Result.ok ({target:=Target.fn (Fn.func gi) ys,args:=xs++Array.map a.eval #[Operand.const yv]}:Deferred) w₁=_
    rw [e]
   ·have hc':CallsIn (Fw none) 0 P gi (xs++#[yv]++ys) w₁ _:=hcalls
    refine CallsIn.mono (CallsIn.more hc' (Nat.zero_le _)) fun e w₃ he=>?_
    cases e with
    | returned v=>
      obtain ⟨k,σ',nx',I',ι'',D'',hK,hc₂,hle,hD2,hglob,hgs,hstill,hrec⟩:=he
      have hbusy:(p.at k).state≠ .busy:=by
       match k with
       | 0=>intro e;cases e
       | 1=>intro e;cases e
       | i+2=>intro e;cases e
      have ho:∀ (o':Obj) (k:Nat),k≠p.l→(w₃.putObj p.l o').heap[k]?=w₃.heap[k]?:=fun o' k h=>World.putObj_heap_other h
      obtain ⟨hc₄,hL₄⟩:=hc₂.move (w':=w₃.putObj p.l (.loop {p.at k with state:=.exhausted})) (ι':=ι'') (D':=D'') (fun r o hr hst=>by rw [ho _ _ fun e=>by subst e;rw [hrec] at hr;cases hr;cases hst];exact hr) (by simp)
       ⟨rfl,rfl,rfl,by simp,fun k hk=>ho _ k (fun e=>by subst e;simp only [p] at hk;omega)⟩ (fun _ _=>rfl) (fun _ h=>h)
      have hold:∀ (r:Nat) (o:Obj),still o=true→w.heap[r]?=some o→(w₃.putObj p.l (.loop {p.at k with state:=.exhausted})).heap[r]?=some o:=fun r o hst hr=>by
       have hlt:=(Array.getElem?_eq_some_iff.1 hr).1
       have hne:r≠p.l:=by simp only [p];omega
       rw [ho _ _ hne]
       exact hstill r o hne hst (hw₁ r o hr)
      have hsim:a1V P G B w0 I0 gh nt' ⟨tm,σ',nx',nt'⟩ {a with defers:=[{target:=.collected w.heap.size,args:=#[]}]++a.defers} (w₃.putObj p.l (.loop {p.at k with state:=.exhausted})):=by
       refine ⟨rfl,by simp only;omega,I',ι'',D'',hc₄,fun b hb=>?_,?_,hsza,hglob.mono hL₄.keeps,fun t ht=>(hgs _ _ (.inr (.inl ⟨t,ht,rfl,rfl⟩))).a3U hL₄,fun v av hg=>(hgs _ _ (.inl hg)).a3U hL₄,fun b hb=>?_,fun r o hk=>⟨(hx.kept r o hk).1,hold r o (hx.kept r o hk).1 (hx.kept r o hk).2⟩,fun q hq=>?_⟩
       ·rcases hD2 b hb with (h | h) | h
        ·have:=hDlt b h;simp only;omega
        ·simp only;omega
        ·exact h.2
       ·obtain ⟨rs,h1,h2,h3⟩:=hx.dfs
        refine ⟨w.heap.size::rs,by simp [h1],?_,fun r hr=>?_⟩
        ·rw [List.nodup_cons]
         exact ⟨fun hm=>by have:=(Array.getElem?_eq_some_iff.1 (h3 _ hm).2.2).1;omega,h2⟩
        ·rcases List.mem_cons.1 hr with rfl | hr
         ·refine ⟨hBw,fun o hk=>?_,?_⟩
          ·have:=(Array.getElem?_eq_some_iff.1 (hx.kept _ o hk).2).1;omega
          ·have hne:w.heap.size≠p.l:=by simp only [p];omega
           rw [ho _ _ hne]
           exact hstill _ _ hne rfl hdef₁
         ·exact ⟨(h3 r hr).1,(h3 r hr).2.1,hold r _ rfl (h3 r hr).2.2⟩
       ·rcases hD2 b hb with (h | h) | h
        ·exact hx.base b h
        ·exact .inr (by omega)
        ·exact .inr (by omega)
       ·obtain ⟨h1,h2,k',h3,h4⟩:=hx.loop q hq
        exact ⟨h1,h2,k',h3,hold _ _ rfl h4⟩
      refine ⟨(p.at k).pending,_,run_endLoop hrec hbusy,?_⟩
      match k,hK,hsim with
      | 0,hK,hsim=>exact ⟨_,hK,hsim⟩
      | 1,hK,hsim=>exact wpIn_ret ⟨_,hK,hsim⟩
      | i+2,hK,hsim=>exact wpIn_exit ⟨_,hK,hsim⟩
    | panicked ch=>exact he.elim
    | outgrown=>exact he.elim
  ·exact h.elim
 ·exact h.elim
theorem b4c (hm:P.follows .mixedOrders=true):∀ (rc:RC),Sound P G B w0 I0 nt rc:=by
 intro rc
 induction rc with
 | skip=>
   intro code hk n ro gh E F9 hE hgh Q s a w h hs
   cases code <;>simp only [a1t] at hk <;>try cases hk
   ·exact wpIn_skip ⟨s,h,hs⟩
   ·exact wpIn_label ⟨s,h,hs⟩
 | b6 rs draw=>
   intro code hk n ro gh E F9 hE hgh Q s a w h hs
   cases code <;>simp only [a1t] at hk <;>try cases hk
   simp only [Bool.or_eq_true,Bool.and_eq_true,beq_iff_eq,Bool.not_eq_true'] at hk
   rcases hk with ⟨rfl,hk⟩ | ⟨rfl,rfl,hk⟩
   ·exact b8V hE hm hk h hs
   ·exact b6s hE hm hk h hs
 | seq x y ihx ihy=>
   intro code hk n ro gh E F9 hE hgh Q s a w h hs
   cases code <;>simp only [a1t] at hk <;>try cases hk
   simp only [Bool.and_eq_true] at hk
   refine wpIn_seq (wpIn_mono (ihx _ hk.1 n ro gh E F9 hE hgh _ s a w h hs) fun e a' w' he=>?_)
   cases e with
   | normal=>obtain ⟨s',h',hs'⟩:=he;exact ihy _ hk.2 n ro gh E F9 hE hgh Q s' a' w' h' hs'
   | exit id=>exact he
   | ret=>exact he
   | goto l=>exact he
   | panic c=>exact he
   | outgrown=>exact he
 | cond c x y ihx ihy=>
   intro code hk n ro gh E F9 hE hgh Q s a w h hs
   cases code <;>simp only [a1t] at hk <;>try cases hk
   simp only [Bool.and_eq_true] at hk
   obtain ⟨hc,hx,hy⟩:=hk
   simp only [aw,b5f] at h
   split at h
   ·rename_i b hb
    obtain ⟨I,ι,D,hxx⟩:=hs.2.2
    have hv:=hxx.eval hc
    rw [hb] at hv
    have hv:=a4T hv
    refine wpIn_cond hv ?_
    cases b
    ·exact ihy _ hy n ro gh E F9 hE hgh Q s a w h hs
    ·exact ihx _ hx n ro gh E F9 hE hgh Q s a w h hs
   ·rename_i hb
    obtain ⟨I,ι,D,hxx⟩:=hs.2.2
    have hv:=hxx.eval hc
    rw [hb] at hv
    generalize hX:a.eval _=X at hv
    cases hv with
    | O5 b=>
      refine wpIn_cond hX ?_
      cases b
      ·exact ihy _ hy n ro gh E F9 hE hgh Q s a w h.2 hs
      ·exact ihx _ hx n ro gh E F9 hE hgh Q s a w h.1 hs
   ·exact h.elim
 | block id b ih=>
   intro code hk n ro gh E F9 hE hgh Q s a w h hs
   cases code <;>simp only [a1t] at hk <;>try cases hk
   simp only [Bool.and_eq_true,beq_iff_eq] at hk
   obtain ⟨rfl,hk⟩:=hk
   rename_i id' c
   refine wpIn_block (wpIn_mono (ih _ hk n ro gh E F9 hE hgh _ s a w h hs) fun e a' w' he=>?_)
   cases e with
   | normal=>exact he
   | exit i=>
     obtain ⟨s',h',hs'⟩:=he
     simp only [Ex.inBlock] at h'
     simp only [Exit.inBlock]
     by_cases e:i=id'
     ·subst e;simp only [beq_self_eq_true] at h';rw [if_pos rfl];exact ⟨s',h',hs'⟩
     ·have hb:(i==id')=false:=by simpa using e
      rw [hb] at h';rw [if_neg e];exact ⟨s',h',hs'⟩
   | ret=>exact he
   | goto l=>exact he
   | panic c=>exact he
   | outgrown=>exact he
 | loop live b ih=>
   intro code hk n ro gh E F9 hE hgh Q s a w h hs
   cases code <;>simp only [a1t] at hk <;>try cases hk
   rename_i c
   refine a5j.wpIn ?_
   have:=h (fun s=>∀ a w,a1V P G B w0 I0 gh nt s a w→a5j (Fw ro) n P c (b0P P G B w0 I0 gh nt Q) a w) fun s h' a w hs=>by
    have hstep:∃ s',aw G (l3 P G) b F9 E (Ex.then (fun s=>∀ a w,a1V P G B w0 I0 gh nt s a w→a5j (Fw ro) n P c (b0P P G B w0 I0 gh nt Q) a w) Q) s'∧a1V P G B w0 I0 gh nt s' a w:=by
     cases hn:F9 with
     | true=>
       rw [hn] at h'
       simp only [a6G] at h'
       have this:=hgh hn
       subst this
       exact ⟨_,h',hs.1,Nat.zero_le _,hs.2.2.norm live⟩
     | false=>
       rw [hn] at h'
       exact ⟨_,h',hs⟩
    obtain ⟨s',h',hs'⟩:=hstep
    refine a5j.round (wpIn_mono (ih _ hk n ro gh E F9 hE hgh _ s' a w h' hs') fun e a' w' he=>?_)
    cases e with
    | normal=>obtain ⟨s',h',hs'⟩:=he;exact h' a' w' hs'
    | exit id=>exact he
    | ret=>exact he
    | goto l=>exact he
    | panic c=>exact he
    | outgrown=>exact he
   refine this (fun s s' hw hX a w hs=>hX a w (a1V.c5f (fun n l hm=>?_) hs hw)) a w hs
   cases F9 with
   | true=>cases hm
   | false=>
     cases hn0:E.n0 with
     | none=>simp only [hn0] at hm;cases hm
     | some k=>simp only [hn0] at hm;cases hm;exact hE.low _ hn0
 | rng f ps x y ihx ihy=>
   intro code hk n ro gh E F9 hE hgh Q s a w h hs
   cases code <;>simp only [a1t] at hk <;>try cases hk
   exact b8Z ihx ihy hk hE h hs
 | exit id=>
   intro code hk n ro gh E F9 hE hgh Q s a w h hs
   cases code <;>simp only [a1t] at hk <;>try cases hk
   simp only [beq_iff_eq] at hk
   subst hk
   exact wpIn_exit ⟨s,h,hs⟩
 | scope b ih=>
   intro code hk n ro gh E F9 hE hgh Q s a w h hs
   cases code <;>simp only [a1t] at hk <;>try cases hk
   exact a7u (ih _ hk n ro gh E F9 hE hgh _ s a w h hs) fun l a w h=>h
 | ret=>
   intro code hk n ro gh E F9 hE hgh Q s a w h hs
   cases code <;>simp only [a1t] at hk <;>try cases hk
   exact wpIn_ret ⟨s,h,hs⟩
theorem a4L {E:Env} {F9:Bool} (hE:a3d P G E ro B w0 I0 gh) (hm:P.follows .mixedOrders=true) (hgh:F9=true→gh=Gh.top) (rc:RC) (code:Code) (hk:a1t P nt code rc=true) (Q:Ex→St→Prop) (s:St) (a:Act) (w:World) (h:aw G (l3 P G) rc F9 E Q s) (hs:a1V P G B w0 I0 gh nt s a w):
 code.wpIn (Fw ro) n P (b0P P G B w0 I0 gh nt Q) a w:=b4c hm rc code hk n ro gh E F9 hE hgh Q s a w h hs
end
end Go.Ab
namespace Go.Ab
open Go.RowKit
section
variable {P:Program} {G:Gl} {B:Nat} {w0:World} {I0:v9} {gh:Gh} {N:Nat→Prop} {s:St} {a:Act} {w:World} {I:v9} {ι:Nat→Option Nat} {σ:b7} {D:Nat→Prop}
theorem Core.put {r:Nat} {x:Option (List Deferred)} {o':Obj} (hc:Core B w0 I0 w I ι σ D) (hr:w.heap[r]?=some (.deferred x)) (hB:B≤r):Core B w0 I0 (w.putObj r o') I ι σ D∧Later0 w I ι σ D (w.putObj r o') I ι σ D:=by
 have ho:∀ k,k≠r→(w.putObj r o').heap[k]?=w.heap[k]?:=fun k h=>World.putObj_heap_other h
 refine hc.move (fun k o hk hst=>?_) (by simp) ⟨rfl,rfl,rfl,by simp,fun k hk=>ho k (by omega)⟩ (fun _ _=>rfl) (fun _ h=>h)
 rw [ho k fun e=>by subst e;rw [hr] at hk;cases hk;cases hst]
 exact hk
theorem a1c.c0O {r:Nat} {x:Option (List Deferred)} {o':Obj} {ds:List Deferred} (h:a1c P G B w0 I0 gh N s a w I ι D) (hr:w.heap[r]?=some (.deferred x)) (hB:B≤r) (hd:Marks B gh.a2q (w.putObj r o') ds) (hk:∀ o,¬ gh.a2q r o):
 a1c P G B w0 I0 gh N s {tmps:=a.tmps,defers:=ds} (w.putObj r o') I ι D:=by
 obtain ⟨hc,hL⟩:=h.core.put (o':=o') hr hB
 refine ⟨hc,h.names,hd,h.size,h.a0P.mono hL.keeps,fun t ht=>(h.tm t ht).a3U hL,fun v av hg=>(h.ghost v av hg).a3U hL,h.base,fun r' o hk'=>⟨(h.kept r' o hk').1,?_⟩,fun p hp=>?_⟩
 ·rw [World.putObj_heap_other (k:=r') (r:=r) fun e=>hk o (by rw [← e];exact hk')];exact (h.kept r' o hk').2
 ·obtain ⟨h1,h2,k,h3,h4⟩:=h.loop p hp
  exact ⟨h1,h2,k,h3,by rw [World.putObj_heap_other fun e=>by rw [e,hr] at h4;cases h4];exact h4⟩
theorem a1c.b6v {gs:Value→AV→Prop} {D0:Nat→Prop} {n0:Nat} {a2q:Nat→Obj→Prop} {tm:T} {nx nt:Nat} {p:a4b} (h:a1c P G B w0 I0 ⟨gs,D0,n0,a2q,none⟩ N ⟨tm,σ,nx,nt⟩ a w I ι D) (hnt:nt≤1023) (hB:B≤p.l) (hr:w.heap[p.l]?=some (.loop (p.at 0))):
 a1c P G B w0 I0 ⟨gs,D0,n0,a2q,some p⟩ N ⟨tm.set d7 L2 (.mark 0),σ,nx,nt⟩ a w I ι D:=by
 refine ⟨h.core,h.names,h.dfs,h.size,h.a0P,fun t ht=>?_,h.ghost,h.base,h.kept,fun q hq=>?_⟩
 ·simp only [H4]
  split
  ·exact .mark _ _
  ·exact h.tm t ht
 ·cases hq
  exact ⟨hnt,hB,0,by simp only [H4,if_true],hr⟩
end
end Go.Ab
namespace Go.Ab
open Go.RowKit
def a0d (P:Program):List ResultVar→List a7M→Bool
 | [],[]=>true
 | .tmp t::l,.tmp u::m=>t==u&&decide (t<1024)&&a0d P l m
 | .cell a t::l,.cell b agg n::m=>a==b&&decide (a<1024)&&n7 P t n&&S8 P t agg&&a0d P l m
 | _,_=>false
def d8 (P:Program) (g:Nat) (c:n6):Bool:=match P.funcs[g]? with
 | some fn=>(match fn.body with
   | some code=>!(fn.name== "runtime.NumGoroutine")&&fn.ntmps==c.ntmps&&decide (c.nparams≤c.ntmps)&&decide (c.nparams≤1024)&&a0d P fn.results.toList c.res&&a1t P c.ntmps code c.body
   | none=>false)
 | none=>false
def a2u:Nat→List AV→T→T
 | _,[],t=>t
 | i,p::l,t=>a2u (i+1) l (t.set d7 i p)
theorem X4 {α:Sort _}:∀ (l:List PV) (i:Nat) (t:T) (K:T→α),a8B i l t K=K (a2u i (l.map .pv) t)
 | [],i,t,K=>rfl
 | p::l,i,t,K=>by simp only [a8B,List.map_cons,a2u,Z3];exact X4 l _ _ K
theorem a2V {α:Sort _}:∀ (l:List AV) (i:Nat) (t:T) (K:T→α),a7O i l t K=K (a2u i l t)
 | [],i,t,K=>rfl
 | p::l,i,t,K=>by simp only [a7O,a2u,E3,Z3];exact a2V l _ _ K
theorem b3x:∀ (l:List AV) (i:Nat) (t:T) (n:Nat),n<1024→i+l.length≤1024→(a2u i l t).get d7 n=if h:i≤n∧n<i+l.length then l[n - i]'(by omega) else t.get d7 n
 | [],i,t,n,_,_=>by simp only [a2u,List.length_nil];rw [dif_neg (by omega)]
 | p::l,i,t,n,hn,hi=>by
   simp only [a2u]
   simp only [List.length_cons] at hi
   rw [b3x l (i+1) _ n hn (by omega)]
   by_cases h:i+1≤n∧n<i+1+l.length
   ·rw [dif_pos h,dif_pos (by simp only [List.length_cons];omega)]
    have e:n - i=(n - (i+1))+1:=by omega
    simp only [e,List.getElem_cons_succ]
   ·rw [dif_neg h,H4]
    have e1:n % 2 ^ d7=n:=Nat.mod_eq_of_lt hn
    have e2:i % 2 ^ d7=i:=Nat.mod_eq_of_lt (by show i<1024;omega)
    rw [e1,e2]
    by_cases h2:n=i
    ·subst h2
     rw [if_pos rfl,dif_pos (by simp only [List.length_cons];omega)]
     simp
    ·rw [if_neg h2,dif_neg (by simp only [List.length_cons];omega)]
section
variable {P:Program} {G:Gl} {B:Nat} {w0:World} {I0:v9} {w:World} {I:v9} {ι:Nat→Option Nat} {σ:b7} {D:Nat→Prop}
theorem c0w (hs:z6 B w I ι σ D) {x:Value} {a:AV} {ev:RA→AV} {y:RA} {t n nm:Nat} {agg:Bool} {e:l7} (hsz:n7 P t n=true) (hg:S8 P t agg=true) (hev:ev y=a) (hx:e8 w I ι σ D x a)
 (h:step σ nm ev (.load agg n y)=some e):∃ ad v,x= .pointer (some ad)∧(loadVar t ad).run P w= .ok v w∧e8 w I ι σ D v e.v:=by
 simp only [step,hev] at h
 split at h
 ·rename_i b i j
  split at h
  ·rename_i o ho
   split at h
   ·rename_i row hrow
    split at h
    ·rename_i hjn
     split at h
     ·rename_i v hv
      cases h
      cases hx with
      | ptr hD hone hx=>
        obtain ⟨r,hr,rfl⟩:=hx o ho
        obtain ⟨r',c,T,fz,k1,k2,k3,k4,k5,k6⟩:=P7 hs ho hrow
        rw [hr] at k1;cases k1
        obtain ⟨v',hv',hrep⟩:=a4a (w:=w) (o:=i*o.es+j) (r:=r) hsz hg hv (by simp;omega) (fun k q hq=>by
         have hk:k<n:=by have:=(List.getElem?_eq_some_iff.1 hq).1;simp at this;omega
         rw [List.getElem?_take_of_lt hk,List.getElem?_drop] at hq
         obtain ⟨x',hx',hrep⟩:=k6 (j+k) q hq
         exact ⟨x',by rw [cell_of k2,Nat.add_assoc];exact hx',hrep.2⟩)
        exact ⟨_,v',rfl,hv',hrep⟩
     ·cases h
    ·cases h
   ·cases h
  ·cases h
 ·rename_i cs
  split at h
  ·rename_i hn
   split at h
   ·rename_i v hv
    cases h
    cases hx with
    | pv hx=>
      cases hx with
      | ref f ha hp hr=>
        rename_i a
        obtain ⟨ab,ao,as⟩:=a
        simp only at ha;subst ha
        obtain ⟨v',hv',hrep⟩:=a4a (w:=w) (I:=I) (ι:=ι) (σ:=σ) (D:=D) (o:=ao) (r:=ab) hsz hg hv (by simp;omega) (fun k q hq=>by
         have hk:k<n:=by have:=(List.getElem?_eq_some_iff.1 hq).1;simp at this;omega
         simp only [List.getElem?_map,Option.map_eq_some_iff] at hq
         obtain ⟨q',hq',rfl⟩:=hq
         rw [List.getElem?_take_of_lt hk] at hq'
         exact ⟨f k,(hp k (by omega)).1,.pv (hr k q' hq')⟩)
        exact ⟨_,v',rfl,hv',hrep⟩
   ·cases h
  ·cases h
 ·cases h
def b4L (tmps:Array Value):ResultVar→Sem Value
 | .tmp t=>pure (tmps.getD t undef)
 | .cell a t=>do loadVar t (← asAddr (tmps.getD a undef))
theorem b7V {gh:Gh} {N:Nat→Prop} {s:St} {a:Act} (hx:a1c P G B w0 I0 gh N s a w I ι D):∀ (l:List ResultVar) (m:List a7M) (vs:List AV),a0d P l m=true→Y3 G s m=some vs→
 ∃ xs:List Value,(l.mapM (b4L a.tmps)).run P w= .ok xs w∧xs.length=vs.length∧∀ (j:Nat) (x:Value) (q:AV),xs[j]?=some x→vs[j]?=some q→e8 w I ι s.σ D x q
 | [],[],vs,_,h=>by simp only [Y3] at h;cases h;exact ⟨[],by simp,rfl,fun j x q hx=>by simp at hx⟩
 | r::l,c::m,vs,hk,h=>by
   simp only [Y3] at h
   split at h
   ·rename_i v hv
    split at h
    ·rename_i vs' hvs
     cases h
     have hk2:a0d P l m=true:=by
      cases r <;>cases c <;>simp only [a0d,Bool.and_eq_true] at hk
      ·exact hk.2
      ·cases hk
      ·cases hk
      ·exact hk.2
     obtain ⟨xs,h1,h2,h3⟩:=b7V hx l m vs' hk2 hvs
     have one:∃ x,(b4L a.tmps r).run P w= .ok x w∧e8 w I ι s.σ D x v:=by
      cases r with
      | tmp t=>
        cases c with
        | tmp u=>
          simp only [a0d,Bool.and_eq_true,beq_iff_eq,decide_eq_true_eq] at hk
          obtain ⟨⟨rfl,hlt⟩,_⟩:=hk
          simp only [c0T] at hv;cases hv
          exact ⟨_,rfl,hx.tm t hlt⟩
        | cell u g n=>simp [a0d] at hk
      | cell t ty=>
        cases c with
        | tmp u=>simp [a0d] at hk
        | cell u g n=>
          simp only [a0d,Bool.and_eq_true,beq_iff_eq,decide_eq_true_eq] at hk
          obtain ⟨⟨⟨⟨rfl,hlt⟩,hsz⟩,hg⟩,_⟩:=hk
          simp only [c0T] at hv
          split at hv
          ·rename_i e he
           cases hv
           obtain ⟨ad,v,e1,e2,e3⟩:=c0w hx.core.u6 hsz hg rfl (hx.tm t hlt) he
           exact ⟨v,by simp [b4L,e1,asAddr,e2],e3⟩
          ·cases hv
     obtain ⟨x,g1,g2⟩:=one
     refine ⟨x::xs,?_,by simp [h2],fun j y q hy hq=>?_⟩
     ·rw [List.mapM_cons]
      simp [g1,h1]
     ·cases j with
      | zero=>simp at hy hq;subst hy;subst hq;exact g2
      | succ j=>simp at hy hq;exact h3 j y q hy hq
    ·cases h
   ·cases h
 | [],_::_,_,hk,_=>by simp [a0d] at hk
 | _::_,[],_,hk,_=>by simp [a0d] at hk
theorem b5S {gh:Gh} {N:Nat→Prop} {s:St} {a:Act} {fn:Func} {m:List a7M} {vs:List AV} (hx:a1c P G B w0 I0 gh N s a w I ι D) (hk:a0d P fn.results.toList m=true) (h:Y3 G s m=some vs):
 ∃ v,(results fn a.tmps).run P w= .ok v w∧e8 w I ι s.σ D v (a5d vs):=by
 obtain ⟨xs,h1,h2,h3⟩:=b7V hx _ _ _ hk h
 have hr:(results fn a.tmps).run P w= .ok (if h:xs.toArray.size=1 then xs.toArray[0] else .tuple xs.toArray) w:=by
  have e:results fn a.tmps=(do let vs ← fn.results.mapM (b4L a.tmps);pure (if h:vs.size=1 then vs[0] else .tuple vs)):=by
   unfold results
   congr 1
  rw [e,Array.mapM_eq_mapM_toList]
  simp [h1]
 refine ⟨_,hr,?_⟩
 cases xs with
 | nil=>
   have:vs=[]:=List.eq_nil_of_length_eq_zero h2.symm
   subst this
   exact .o0 rfl fun j x q hx=>by simp at hx
 | cons x xs=>
   cases xs with
   | nil=>
     cases vs with
     | nil=>simp at h2
     | cons v vs=>
       have:vs=[]:=List.eq_nil_of_length_eq_zero (by simpa using h2.symm)
       subst this
       exact h3 0 x v rfl rfl
   | cons y ys=>
     cases vs with
     | nil=>simp at h2
     | cons v vs=>
       cases vs with
       | nil=>simp at h2
       | cons v' vs=>
         have:¬ (x::y::ys).toArray.size=1:=by simp
         rw [dif_neg this]
         exact .o0 (by simpa using h2) fun j z q hz hq=>h3 j z q (by simpa using hz) hq
end
theorem a1E {P:Program} {G:Gl} {B:Nat} {w0:World} {I0:v9} {gh:Gh} {N:Nat→Prop} {s:St} {I:v9} {ι:Nat→Option Nat} {D:Nat→Prop} {F:Fence} {n:Nat} {fn:Func} {m:List a7M} {vs:List AV} {R:Ending→World→Prop} {tmps:Array Value}
 (hk:a0d P fn.results.toList m=true) (h:Y3 G s m=some vs):∀ (rs:List Nat) (ds:List Deferred) (w:World),ds.map (·.target)=rs.map Target.collected→rs.Nodup→(∀ r ∈ rs,B≤r∧(∀ o,¬ gh.a2q r o)∧w.heap[r]?=some (.deferred (some [])))→
  a1c P G B w0 I0 gh N s {tmps:=tmps,defers:=ds} w I ι D→
  (∀ w' v,a1c P G B w0 I0 gh N s {tmps:=tmps,defers:=[]} w' I ι D→e8 w' I ι s.σ D v (a5d vs)→R (.returned v) w')→LeavesInM F n P fn tmps R ds .returning w
 | [],[],w,_,_,_,hx,hR=>by
   obtain ⟨v,hv,hrep⟩:=b5S hx hk h
   exact ⟨v,hv,hR w v hx hrep⟩
 | r::rs,d::ds,w,hm,hnd,hr,hx,hR=>by
   simp only [List.map_cons,List.cons.injEq] at hm
   obtain ⟨hm1,hm2⟩:=hm
   rw [List.nodup_cons] at hnd
   obtain ⟨hB,hkp,hh⟩:=hr r (by simp)
   have hr':∀ r' ∈ rs,B≤r'∧(∀ o,¬ gh.a2q r' o)∧(w.putObj r (.deferred none)).heap[r']?=some (.deferred (some [])):=fun r' hr'=>by
    have hne:r'≠r:=fun e=>hnd.1 (e ▸ hr')
    exact ⟨(hr r' (by simp [hr'])).1,(hr r' (by simp [hr'])).2.1,(World.putObj_heap_other hne).trans (hr r' (by simp [hr'])).2.2⟩
   refine ⟨by simp,.inl ⟨r,w.putObj r (.deferred none),hm1,run_takeDeferred hh,?_⟩⟩
   exact a1E hk h rs ds _ hm2 hnd.2 hr' (hx.c0O hh hB ⟨rs,hm2,hnd.2,hr'⟩ hkp) hR
 | [],_::_,_,hm,_,_,_,_=>by simp at hm
 | _::_,[],_,hm,_,_,_,_=>by simp at hm
end Go.Ab
namespace Go.Ab
open Go.RowKit
theorem a2Z {P:Program} {G:Gl} {B:Nat} {w0:World} {I0:v9} {w:World} {I:v9} {ι:Nat→Option Nat} {σ:b7} {D:Nat→Prop} {gs:Value→AV→Prop} {D0:Nat→Prop} {n0:Nat} {a2q:Nat→Obj→Prop} {vs:Array Value} {as:List AV} {nt nx:Nat} (hc:Core B w0 I0 w I ι σ D) (hn:∀ b,D b→b<nx)
 (hg:V9 P G w I) (hl:vs.size=as.length) (ha:∀ (j:Nat) (x:Value) (q:AV),vs[j]?=some x→as[j]?=some q→e8 w I ι σ D x q) (hgs:∀ v av,gs v av→e8 w I ι σ D v av) (hb:∀ b,D b→D0 b∨n0≤b) (h0:n0≤nx) (hkp:∀ r o,a2q r o→still o=true∧w.heap[r]?=some o)
 (h1:as.length≤nt) (h2:as.length≤1024):
 a1V P G B w0 I0 ⟨gs,D0,n0,a2q,none⟩ nt {tm:=a2u 0 as .nil,σ:=σ,nx:=nx,nt:=nt} {tmps:=vs++Array.replicate (nt - vs.size) undef,defers:=[]} w:=by
 refine ⟨rfl,h0,I,ι,D,hc,hn,⟨[],rfl,List.nodup_nil,fun r h=>by cases h⟩,?_,hg,fun t ht=>?_,hgs,hb,hkp,fun _ h=>by cases h⟩
 ·simp only [Array.size_append,Array.size_replicate]
  omega
 ·show e8 w I _ _ _ _ ((a2u 0 as .nil).get d7 t)
  rw [b3x as 0 .nil t ht (by omega)]
  by_cases h:0≤t∧t<0+as.length
  ·rw [dif_pos h]
   have hv:t<vs.size:=by omega
   refine ha t _ _ ?_ (List.getElem?_eq_getElem (by omega))
   simp [Array.getD,hv,Nat.lt_add_right]
  ·rw [dif_neg h,get_nil];exact .undef _
structure b3V (P:Program) (g:Nat) (c:n6) (fn:Func) (code:Code):Prop where
 func:P.funcs[g]?=some fn
 body:fn.body=some code
 name:¬ fn.name= "runtime.NumGoroutine"
 nt:fn.ntmps=c.ntmps
 np:c.nparams≤c.ntmps
 np':c.nparams≤1024
 res:a0d P fn.results.toList c.res=true
 code:a1t P c.ntmps code c.body=true
theorem a1u {P:Program} {g:Nat} {c:n6} (hk:d8 P g c=true):∃ fn code,b3V P g c fn code:=by
 unfold d8 at hk
 split at hk
 ·rename_i fn hf
  split at hk
  ·rename_i code hb
   simp only [Bool.and_eq_true,Bool.not_eq_true',beq_iff_eq,decide_eq_true_eq] at hk
   obtain ⟨⟨⟨⟨⟨hname,hnt⟩,hp1⟩,hp2⟩,hres⟩,hcode⟩:=hk
   exact ⟨fn,code,hf,hb,by simpa using hname,hnt,hp1,hp2,hres,hcode⟩
  ·cases hk
 ·cases hk
theorem b3V.enter {P:Program} {g:Nat} {c:n6} {fn:Func} {code:Code} (h:b3V P g c fn code) (vs:Array Value) (w₁:World):(callFunc g vs).run P w₁= .ok (.enter g vs) w₁:=by
 unfold callFunc
 simp [h.func,h.name,h.body]
def S9 (P:Program) (g:Nat) (c:n6):Bool:=d8 P g c&&(decide (c.ntmps≤1023)&&c.res.isEmpty)
theorem a1O {P:Program} {G:Gl} (hm:P.follows .mixedOrders=true) {ext:Nat→Option a2A} (hext:a3H P G fun g=>(ext g).map a6c) {tab x9:Nat→Option n6} (htab:∀ g c,tab g=some c→d8 P g c=true) (htabI:∀ g c,x9 g=some c→S9 P g c=true):
 ∀ d,a3H P G (M0 G (l3 P G) ext tab x9 d).inl∧c3F P G (M0 G (l3 P G) ext tab x9 d).itr
 | 0=>⟨fun g h hg=>by simp [M0] at hg,fun g h hg=>by simp [M0] at hg⟩
 | d+1=>by
   obtain ⟨ih1,ih2⟩:=a1O (G:=G) hm hext htab htabI d
   refine ⟨fun g h hg=>?_,fun g h hg=>?_⟩
   ·simp only [M0] at hg
    cases hx:ext g with
    | some r=>
      rw [hx] at hg
      exact hext g h (by simp only [hx,Option.map_some];exact hg)
    | none=>
    rw [hx] at hg
    simp only at hg
    split at hg
    ·rename_i c hc
     cases hg
     intro args σ nx K hrun B w0 I0 gs w I ι D vs hcore hD hglob hl ha hgs
     obtain ⟨fn,code,hf⟩:=a1u (htab g c hc)
     split at hrun
     ·rename_i hlen
      rw [beq_iff_eq] at hlen
      rw [a2V] at hrun
      refine ⟨hf.enter vs,callsIn_of_wp_marks hf.func hf.body trivial ?_⟩
      rw [hf.nt]
      have hsim:=a2Z (gs:=gs) (D0:=D) (n0:=nx) (a2q:=fun r o=>still o=true∧w.heap[r]?=some o) (nt:=c.ntmps) hcore hD hglob hl ha hgs (fun b h=>.inl h) (Nat.le_refl _) (fun r o h=>h) (by have:=hf.np;omega) (by have:=hf.np';omega)
      have hE:a3d P G ⟨(M0 G (l3 P G) ext tab x9 d).inl,(M0 G (l3 P G) ext tab x9 d).itr,none,some nx⟩ none B w0 I0 ⟨gs,D,nx,fun r o=>still o=true∧w.heap[r]?=some o,none⟩:=⟨ih1,ih2,(fun _ h=>by cases h),(fun b h e=>by cases e),fun n h=>by cases h;exact ⟨rfl,fun v av hg=>(hgs v av hg).low hD⟩⟩
      refine wpIn_mono (a4L (ro:=none) hE hm (fun h=>by cases h) c.body code hf.code _ _ _ _ hrun hsim) fun e a w' he=>?_
      have fin:∀ s,(match s with | ⟨tm,σ,nx,nt⟩=>match Y3 G ⟨tm,σ,nx,nt⟩ c.res with | some vs=>C0 (a5d vs) fun v=>K v σ nx | none=>False)→a1V P G B w0 I0 ⟨gs,D,nx,fun r o=>still o=true∧w.heap[r]?=some o,none⟩ c.ntmps s a w'→
       LeavesInM Fence.wide 0 P fn a.tmps (b3X P G B w0 I0 gs D w nx K) a.defers .returning w':=by
       intro s hs ⟨_,hle,I₁,ι₁,D₁,hx⟩
       obtain ⟨tm,σ',nx',nt⟩:=s
       simp only at hs
       split at hs
       ·rename_i vs' hvs
        rw [E3] at hs
        obtain ⟨rs,m1,m2,m3⟩:=hx.dfs
        refine a1E hf.res hvs rs a.defers w' m1 m2 m3 hx fun w₂ v hx hrep=>?_
        exact ⟨a5d vs',σ',nx',I₁,ι₁,D₁,hs,hx.core,hle,fun b hb=>(hx.base b hb).elim .inl fun h=>.inr ⟨h,hx.names b hb⟩,hrep,hx.a0P,hx.ghost,fun r o h1 h2=>(hx.kept r o ⟨h1,h2⟩).2⟩
       ·exact hs.elim
      cases e with
      | normal=>obtain ⟨s,hq,hs⟩:=he;exact fin s hq hs
      | ret=>obtain ⟨s,hq,hs⟩:=he;exact fin s hq hs
      | exit i=>obtain ⟨s,hq,hs⟩:=he;exact hq.elim
      | goto l=>exact he.elim
      | panic ch=>exact he.elim
      | outgrown=>exact he.elim
     ·exact hrun.elim
    ·cases hg
   ·simp only [M0] at hg
    split at hg
    ·rename_i c hc
     cases hg
     intro b hh args σ nx K hrun B w0 I0 gs p w I ι D vs hcore hD hglob hl ha hgs hpb hgy hBl hrec hY
     have hci:=htabI g c hc
     simp only [S9,Bool.and_eq_true,decide_eq_true_eq,List.isEmpty_iff] at hci
     obtain ⟨hcf,hnt,hres⟩:=hci
     obtain ⟨fn,code,hf⟩:=a1u hcf
     split at hrun
     ·rename_i hlen
      rw [beq_iff_eq] at hlen
      rw [a2V,Z3] at hrun
      refine ⟨hf.enter vs,callsIn_of_wp_marks hf.func hf.body trivial ?_⟩
      rw [hf.nt]
      obtain ⟨s1,s2,I₁,ι₁,D₁,s3⟩:=a2Z (gs:=gs) (D0:=D) (n0:=nx) (a2q:=fun r o=>still o=true∧w.heap[r]?=some o∧r≠p.l) (nt:=c.ntmps) hcore hD hglob hl ha hgs (fun b h=>.inl h) (Nat.le_refl _) (fun r o h=>⟨h.1,h.2.1⟩) (by have:=hf.np;omega) (by have:=hf.np';omega)
      have hE:a3d P G ⟨(M0 G (l3 P G) ext tab x9 d).inl,(M0 G (l3 P G) ext tab x9 d).itr,some (b,hh),some nx⟩ none B w0 I0 ⟨gs,D,nx,fun r o=>still o=true∧w.heap[r]?=some o∧r≠p.l,some p⟩:=
       ⟨ih1,ih2,(fun _ h=>by cases h),(fun b' h' e=>by cases e;exact ⟨p,rfl,hpb,fun o hk=>hk.2.2 rfl,hgy,hY⟩),fun n h=>by cases h;exact ⟨rfl,fun v av hg=>(hgs v av hg).low hD⟩⟩
      refine wpIn_mono (a4L (ro:=none) hE hm (fun h=>by cases h) c.body code hf.code _ _ _ _ hrun ⟨s1,s2,I₁,ι₁,D₁,s3.b6v hnt hBl hrec⟩) fun e a w' he=>?_
      have fin:∀ s,(match s with | ⟨tm,σ,nx,_⟩=>C0 (tm.get d7 L2) fun v=>K v σ nx)→a1V P G B w0 I0 ⟨gs,D,nx,fun r o=>still o=true∧w.heap[r]?=some o∧r≠p.l,some p⟩ c.ntmps s a w'→
       LeavesInM Fence.wide 0 P fn a.tmps (b7q P G B w0 I0 p gs D w nx K) a.defers .returning w':=by
       intro s hs ⟨_,hle,I₁,ι₁,D₁,hx⟩
       obtain ⟨tm,σ',nx',nt⟩:=s
       simp only at hs
       rw [E3] at hs
       obtain ⟨rs,m1,m2,m3⟩:=hx.dfs
       refine a1E (vs:=[]) hf.res (by rw [hres];rfl) rs a.defers w' m1 m2 m3 hx fun w₂ v hx hrep=>?_
       obtain ⟨_,_,k,hk1,hk2⟩:=hx.loop p rfl
       simp only at hk1
       rw [hk1] at hs
       exact ⟨k,σ',nx',I₁,ι₁,D₁,hs,hx.core,hle,fun b hb=>(hx.base b hb).elim .inl fun h=>.inr ⟨h,hx.names b hb⟩,hx.a0P,hx.ghost,fun r o h0 h1 h2=>(hx.kept r o ⟨h1,h2,h0⟩).2,hk2⟩
      cases e with
      | normal=>obtain ⟨s,hq,hs⟩:=he;exact fin s hq hs
      | ret=>obtain ⟨s,hq,hs⟩:=he;exact fin s hq hs
      | exit i=>obtain ⟨s,hq,hs⟩:=he;exact hq.elim
      | goto l=>exact he.elim
      | panic ch=>exact he.elim
      | outgrown=>exact he.elim
     ·exact hrun.elim
    ·cases hg
def a3X (σ:b7) (b:Nat):Option (Nat × List (List PV) × List Nat):=
 match find σ b with
 | some (.arr es rows false)=>some (es,rows,[])
 | some (.box es rowsA false)=>(match b3i (pub σ 8) rowsA with
   | some (rows,m)=>(match m.any (·==b) with | true=>none | false=>some (es,rows,m))
   | none=>none)
 | _=>none
def c7O (G:Gl) (rs:List a7M) (es:Nat) (rows:List (List PV)) (e:Ex) (st:St):Prop:=
 match e with
 | .exit _=>False
 | _=>∃ b m,Y3 G st rs=some [.own b 0 rows.length]∧a3X st.σ b=some (es,rows,m)
theorem b7R {B:Nat} {w:World} {I:v9} {ι:Nat→Option Nat} {σ:b7} {D:Nat→Prop} {b es:Nat} {rows:List (List PV)} {m:List Nat} {v:Value} (hs:z6 B w I ι σ D) (ho:a3X σ b=some (es,rows,m)) (hrep:e8 w I ι σ D v (.own b 0 rows.length)) (nm:Nat):
 z6 B w (P0 I ι σ m) (fun x=>if x=nm then ι b else none) [(nm,some (.arr es rows false))] (Names nm)∧e8 w (P0 I ι σ m) (fun x=>if x=nm then ι b else none) [(nm,some (.arr es rows false))] (Names nm) v (.own nm 0 rows.length):=by
 obtain ⟨hs',hL'⟩:=hs.C3 m
 have main:∃ o,find σ b=some o∧find (A6 σ m) b=some o∧o.O3=false∧o.L0=false∧o.es=es∧o.len=rows.length∧
  ∀ (i:Nat) (rowA:List AV) (row:List PV),o.row? i=some rowA→rows[i]?=some row→rowA.length=row.length∧∀ (j:Nat) (x:Value) (a:AV) (p:PV),rowA[j]?=some a→row[j]?=some p→e8 w I ι σ D x a→z5 w (P0 I ι σ m) x p:=by
  unfold a3X at ho
  split at ho
  ·rename_i es' rows' hf
   cases ho
   refine ⟨_,hf,by simpa [A6] using hf,rfl,rfl,rfl,rfl,fun i rowA row h1 h2=>?_⟩
   simp only [d9.row?,h2] at h1
   cases h1
   refine ⟨by simp,fun j x a p ha hp hr=>?_⟩
   rw [List.getElem?_map,hp] at ha
   cases ha
   cases hr with | pv h=>exact h.mono a8e
  ·rename_i es' rowsA hf
   split at ho
   ·rename_i rows' m' hp
    split at ho
    ·cases ho
    ·rename_i hnm
     cases ho
     have hb:b ∉ m:=by
      intro hb
      rw [List.any_eq_false] at hnm
      exact hnm b hb (by simp)
     obtain ⟨e1,e2⟩:=b2r (b1z (M:=m) hs 8) _ _ _ hp fun _ h=>h
     refine ⟨_,hf,?_,rfl,rfl,rfl,e1,fun i rowA row h1 h2=>?_⟩
     ·rw [a0N,hf];simp [hb]
     ·exact (e2 i rowA row h1 h2).imp id fun h j x a p ha hp hr=>h j a p x ha hp hr
   ·cases ho
  ·cases ho
 obtain ⟨o,hf,hf',hsl,hmap,hes,hlen,hcell⟩:=main
 have key:∀ b' o',find [(nm,some (d9.arr es rows false))] b'=some o'→b'=nm∧o'= .arr es rows false:=by
  intro b' o' h
  simp only [find] at h
  split at h
  ·rename_i hb;rw [beq_iff_eq] at hb;cases h;exact ⟨hb.symm,rfl⟩
  ·cases h
 have hrows:D6 w I ι σ D b o:=by
  have:=hs.obj b o hf
  cases o with
  | map ents=>simp [d9.L0] at hmap
  | arr e r sl=>exact this
  | box e r sl=>exact this
 refine ⟨⟨hs'.bnd,fun b' o' h=>?_,fun b₁ b₂ o₁ o₂ r h₁ h₂ _ _=>(key b₁ o₁ h₁).1.trans (key b₂ o₂ h₂).1.symm,fun b' o' r h e=>?_,fun b' o' r k h e hi=>?_,fun b' o' h=>?_⟩,?_⟩
 ·obtain ⟨rfl,_⟩:=key b' o' h;exact ⟨Nat.le_refl _,by simp [g9]⟩
 ·obtain ⟨rfl,rfl⟩:=key b' o' h
  rw [if_pos rfl] at e
  exact hs.ge b o r hf e
 ·obtain ⟨rfl,rfl⟩:=key b' o' h
  rw [if_pos rfl] at e
  have:=(hs'.sep b o r k hf' e hi).1
  rw [hsl] at this;cases this
 ·obtain ⟨rfl,rfl⟩:=key b' o' h
  rcases hrows with ⟨h1,h2⟩ | ⟨r,cc,T,fz,h1,h2,h3,h4,h5⟩
  ·exact .inl ⟨by simp only [if_true];exact h1,by simp only [d9.len];omega⟩
  ·refine .inr ⟨r,cc,T,fz,by simp only [if_true];exact h1,h2,h3,by simp only [d9.len,d9.es];rw [← hes,← hlen];exact h4,fun i row hrow=>?_⟩
   simp only [d9.row?] at hrow
   split at hrow
   ·rename_i r0 hr0
    cases hrow
    have hi:i<o.len:=by rw [hlen];exact (List.getElem?_eq_some_iff.1 hr0).1
    obtain ⟨rowA,hrowA⟩:∃ rowA,o.row? i=some rowA:=by
     cases o with
     | map ents=>simp [d9.L0] at hmap
     | arr e r sl=>simp only [d9.len] at hi;exact ⟨r[i].map .pv,by simp only [d9.row?,List.getElem?_eq_getElem hi]⟩
     | box e r sl=>simp only [d9.len] at hi;exact ⟨_,by simp only [d9.row?];exact List.getElem?_eq_getElem hi⟩
    obtain ⟨l1,l2⟩:=hcell i rowA r0 hrowA hr0
    obtain ⟨k1,k2⟩:=h5 i rowA hrowA
    refine ⟨by simp only [List.length_map,d9.es];rw [← l1,k1,hes],fun j v' hv'=>?_⟩
    rw [List.getElem?_map,Option.map_eq_some_iff] at hv'
    obtain ⟨p,hp,rfl⟩:=hv'
    have hj:j<rowA.length:=by rw [l1];exact (List.getElem?_eq_some_iff.1 hp).1
    obtain ⟨x,hx1,hx2,hx3⟩:=k2 j _ (List.getElem?_eq_getElem hj)
    exact ⟨x,by simp only [d9.es];rw [← hes];exact hx1,hx2,.pv (l2 j x _ p (List.getElem?_eq_getElem hj) hp hx3)⟩
   ·cases hrow
 ·cases hrep with
  | own hD hone hv=>
    refine .own ⟨Nat.le_refl _,by simp [g9]⟩ hone fun o' ho'=>?_
    simp only [find,beq_self_eq_true] at ho'
    cases ho'
    obtain ⟨p,cap,k1,k2,k3,k4⟩:=hv _ hf
    refine ⟨p,cap,k1,by simp only [d9.len];omega,⟨k3.1,by have:=k3.2;simp only [d9.len];omega⟩,k4.imp id fun ⟨r,cc,T,fz,g1,g2,g3,g4⟩=>⟨r,cc,T,fz,by simp only [if_true];exact g1,by simp only [d9.es];rw [← hes];exact g2,g3,by simp only [d9.es];rw [← hes];exact g4⟩⟩
def fnO (G:Gl) (Ok:Nat→List PV→Own→PV→Prop) (ext:Nat→Option a2A) (tab x9:Nat→Option n6) (d:Nat) (f:n6) (args:List PV) (es:Nat) (rows:List (List PV)):Prop:=
 a8B 0 args .nil fun tm=>aw G Ok f.body true (M0 G Ok ext tab x9 d) (c7O G f.res es rows) {tm:=tm,σ:=[],nx:=0,nt:=f.ntmps}
theorem b3J {P:Program} {G:Gl} {g:Nat} {c:n6} {ps:List PV} {r:PV} (hm:P.follows .mixedOrders=true) (hk:d8 P g c=true) {ext:Nat→Option a2A} (hext:a3H P G fun g=>(ext g).map a6c) {tab x9:Nat→Option n6} (htab:∀ g c,tab g=some c→d8 P g c=true) (htabI:∀ g c,x9 g=some c→S9 P g c=true) {d:Nat}
 (hl:ps.length=c.nparams) (h:fnW G (l3 P G) ext tab x9 d c ps r):l3 P G g ps [] r:=by
 obtain ⟨fn,code,hf⟩:=a1u hk
 intro w I vs hbnd hglob hargs
 refine ⟨hf.enter vs,callsIn_of_wp_marks hf.func hf.body trivial ?_⟩
 simp only [fnW,X4] at h
 rw [hf.nt]
 have hcore:Core w.heap.size w I w I (fun _=>none) [] (fun _=>False):=⟨⟨hbnd,fun b o h=>by simp [find] at h,fun b b' o o' r h=>by simp [find] at h,fun b o r h=>by simp [find] at h,fun b o r k h=>by simp [find] at h,fun b o h=>by simp [find] at h⟩,
  Below.refl _ _,Nat.le_refl _,fun _ _ h=>h,fun _ _ _ h=>h⟩
 have hsim:=a2Z (gs:=fun _ _=>False) (D0:=fun _=>True) (n0:=0) (a2q:=fun _ _=>False) (nx:=0) (as:=ps.map .pv) (vs:=vs) (nt:=c.ntmps) hcore (fun b h=>h.elim) hglob (by rw [List.length_map];exact hargs.1)
  (fun j x q hx hq=>by
   rw [List.getElem?_map,Option.map_eq_some_iff] at hq
   obtain ⟨p,hp,rfl⟩:=hq
   exact .pv (hargs.2 j x p hx hp)) (fun _ _ h=>h.elim) (fun b h=>h.elim) (Nat.le_refl _) (fun _ _ h=>h.elim) (by rw [List.length_map];have:=hf.np;omega) (by rw [List.length_map];have:=hf.np';omega)
 have hE:a3d P G (M0 G (l3 P G) ext tab x9 d) none w.heap.size w I Gh.top:=⟨(a1O hm hext htab htabI d).1,(a1O hm hext htab htabI d).2,(fun _ h=>by cases h),(fun b h e=>by cases d <;>simp [M0] at e),fun n h=>by cases d <;>simp [M0] at h⟩
 refine wpIn_mono (a4L (ro:=none) hE hm (fun _=>rfl) c.body code hf.code _ _ _ _ h hsim) fun e a w' he=>?_
 have fin:∀ s,(match Y3 G s c.res with | some vs=>(match pub s.σ 8 (a5d vs) with | some (p,_)=>p=r | none=>False) | none=>False)→a1V P G w.heap.size w I .top c.ntmps s a w'→
  LeavesInM Fence.wide 0 P fn a.tmps (a4I w I [] r) a.defers .returning w':=by
  intro s hs ⟨_,_,I₁,ι,D,hx⟩
  split at hs
  ·rename_i vs' hvs
   split at hs
   ·rename_i p m hp
    subst hs
    obtain ⟨rs,m1,m2,m3⟩:=hx.dfs
    refine a1E (gh:=Gh.top) hf.res hvs rs a.defers w' m1 m2 m3 hx fun w₂ v hx hrep=>?_
    obtain ⟨hs',hL⟩:=z6.C3 hx.core.u6 m
    have hpv:=b1z (M:=m) hx.core.u6 8 _ _ _ _ hp (fun b h=>h) hrep
    refine ⟨P0 I₁ ι s.σ m,hx.core.below,fun a k h=>.inl (hx.core.ext a k h),fun a k hlt h=>?_,fun nm=>⟨fun _=>none,?_,.pv hpv⟩⟩
    ·rcases h with h | ⟨b,o,_,hf,_,hr,_⟩
     ·exact hx.core.old a k hlt h
     ·have:=hx.core.u6.ge b o a hf hr;omega
    ·exact ⟨hs'.bnd,fun b o h=>by simp [imp,m0,find] at h,fun b b' o o' r h=>by simp [imp,m0,find] at h,fun b o r h=>by simp [imp,m0,find] at h,fun b o r k h=>by simp [imp,m0,find] at h,fun b o h=>by simp [imp,m0,find] at h⟩
   ·exact hs.elim
  ·exact hs.elim
 cases e with
 | normal=>obtain ⟨s,hq,hs⟩:=he;exact fin s hq hs
 | ret=>obtain ⟨s,hq,hs⟩:=he;exact fin s hq hs
 | exit i=>obtain ⟨s,hq,hs⟩:=he;exact hq.elim
 | goto l=>exact he.elim
 | panic ch=>exact he.elim
 | outgrown=>exact he.elim
theorem b8O {P:Program} {G:Gl} {g:Nat} {c:n6} {ps:List PV} {es:Nat} {rows:List (List PV)} (hm:P.follows .mixedOrders=true) (hk:d8 P g c=true) {ext:Nat→Option a2A} (hext:a3H P G fun g=>(ext g).map a6c) {tab x9:Nat→Option n6} (htab:∀ g c,tab g=some c→d8 P g c=true) (htabI:∀ g c,x9 g=some c→S9 P g c=true) {d:Nat}
 (hl:ps.length=c.nparams) (h:fnO G (l3 P G) ext tab x9 d c ps es rows):l3 P G g ps [(0,0)] (.sl es rows):=by
 obtain ⟨fn,code,hf'⟩:=a1u hk
 intro w I vs hbnd hglob hargs
 refine ⟨hf'.enter vs,callsIn_of_wp_marks hf'.func hf'.body trivial ?_⟩
 simp only [fnO,X4] at h
 rw [hf'.nt]
 have hcore:Core w.heap.size w I w I (fun _=>none) [] (fun _=>False):=⟨⟨hbnd,fun b o h=>by simp [find] at h,fun b b' o o' r h=>by simp [find] at h,fun b o r h=>by simp [find] at h,fun b o r k h=>by simp [find] at h,fun b o h=>by simp [find] at h⟩,
  Below.refl _ _,Nat.le_refl _,fun _ _ h=>h,fun _ _ _ h=>h⟩
 have hsim:=a2Z (gs:=fun _ _=>False) (D0:=fun _=>True) (n0:=0) (a2q:=fun _ _=>False) (nx:=0) (as:=ps.map .pv) (vs:=vs) (nt:=c.ntmps) hcore (fun b h=>h.elim) hglob (by rw [List.length_map];exact hargs.1)
  (fun j x q hx hq=>by
   rw [List.getElem?_map,Option.map_eq_some_iff] at hq
   obtain ⟨p,hp,rfl⟩:=hq
   exact .pv (hargs.2 j x p hx hp)) (fun _ _ h=>h.elim) (fun b h=>h.elim) (Nat.le_refl _) (fun _ _ h=>h.elim) (by rw [List.length_map];have:=hf'.np;omega) (by rw [List.length_map];have:=hf'.np';omega)
 have hE:a3d P G (M0 G (l3 P G) ext tab x9 d) none w.heap.size w I Gh.top:=⟨(a1O hm hext htab htabI d).1,(a1O hm hext htab htabI d).2,(fun _ h=>by cases h),(fun b h e=>by cases d <;>simp [M0] at e),fun n h=>by cases d <;>simp [M0] at h⟩
 refine wpIn_mono (a4L (ro:=none) hE hm (fun _=>rfl) c.body code hf'.code _ _ _ _ h hsim) fun e a w' he=>?_
 have fin:∀ s,(∃ b m,Y3 G s c.res=some [.own b 0 rows.length]∧a3X s.σ b=some (es,rows,m))→a1V P G w.heap.size w I .top c.ntmps s a w'→
  LeavesInM Fence.wide 0 P fn a.tmps (a4I w I [(0,0)] (.sl es rows)) a.defers .returning w':=by
  intro s ⟨b,m,hvs,hout⟩ ⟨_,_,I₁,ι,D,hx⟩
  obtain ⟨rs,m1,m2,m3⟩:=hx.dfs
  refine a1E (gh:=Gh.top) hf'.res hvs rs a.defers w' m1 m2 m3 hx fun w₂ v hx hrep=>?_
  refine ⟨P0 I₁ ι s.σ m,hx.core.below,fun a k h=>.inl (hx.core.ext a k h),fun a k hlt h=>?_,fun nm=>⟨_,b7R hx.core.u6 hout hrep nm⟩⟩
  rcases h with h | ⟨b,o,_,hf,_,hr,_⟩
  ·exact hx.core.old a k hlt h
  ·have:=hx.core.u6.ge b o a hf hr;omega
 cases e with
 | normal=>obtain ⟨s,hq,hs⟩:=he;exact fin s hq hs
 | ret=>obtain ⟨s,hq,hs⟩:=he;exact fin s hq hs
 | exit i=>obtain ⟨s,hq,hs⟩:=he;exact hq.elim
 | goto l=>exact he.elim
 | panic ch=>exact he.elim
 | outgrown=>exact he.elim
def c5M (G:Gl) (rs:List a7M) (es:Nat) (rows:List (List PV)) (kd:IntKind) (nn:Int) (e:Ex) (st:St):Prop:=
 match e with
 | .exit _=>False
 | _=>∃ b m,Y3 G st rs=some [.own b 0 rows.length,.pv (.int kd nn)]∧a3X st.σ b=some (es,rows,m)
def c4o (G:Gl) (Ok:Nat→List PV→Own→PV→Prop) (ext:Nat→Option a2A) (tab x9:Nat→Option n6) (d:Nat) (f:n6) (args:List PV) (es:Nat) (rows:List (List PV)) (kd:IntKind) (nn:Int):Prop:=
 a8B 0 args .nil fun tm=>aw G Ok f.body true (M0 G Ok ext tab x9 d) (c5M G f.res es rows kd nn) {tm:=tm,σ:=[],nx:=0,nt:=f.ntmps}
theorem b6M {P:Program} {G:Gl} {g:Nat} {c:n6} {ps:List PV} {es:Nat} {rows:List (List PV)} {kd:IntKind} {nn:Int} (hm:P.follows .mixedOrders=true) (hk:d8 P g c=true) {ext:Nat→Option a2A} (hext:a3H P G fun g=>(ext g).map a6c) {tab x9:Nat→Option n6} (htab:∀ g c,tab g=some c→d8 P g c=true) (htabI:∀ g c,x9 g=some c→S9 P g c=true) {d:Nat}
 (hl:ps.length=c.nparams) (h:c4o G (l3 P G) ext tab x9 d c ps es rows kd nn):l3 P G g ps [(0,0)] (.o0 [.sl es rows,.int kd nn]):=by
 obtain ⟨fn,code,hf'⟩:=a1u hk
 intro w I vs hbnd hglob hargs
 refine ⟨hf'.enter vs,callsIn_of_wp_marks hf'.func hf'.body trivial ?_⟩
 simp only [c4o,X4] at h
 rw [hf'.nt]
 have hcore:Core w.heap.size w I w I (fun _=>none) [] (fun _=>False):=⟨⟨hbnd,fun b o h=>by simp [find] at h,fun b b' o o' r h=>by simp [find] at h,fun b o r h=>by simp [find] at h,fun b o r k h=>by simp [find] at h,fun b o h=>by simp [find] at h⟩,
  Below.refl _ _,Nat.le_refl _,fun _ _ h=>h,fun _ _ _ h=>h⟩
 have hsim:=a2Z (gs:=fun _ _=>False) (D0:=fun _=>True) (n0:=0) (a2q:=fun _ _=>False) (nx:=0) (as:=ps.map .pv) (vs:=vs) (nt:=c.ntmps) hcore (fun b h=>h.elim) hglob (by rw [List.length_map];exact hargs.1)
  (fun j x q hx hq=>by
   rw [List.getElem?_map,Option.map_eq_some_iff] at hq
   obtain ⟨p,hp,rfl⟩:=hq
   exact .pv (hargs.2 j x p hx hp)) (fun _ _ h=>h.elim) (fun b h=>h.elim) (Nat.le_refl _) (fun _ _ h=>h.elim) (by rw [List.length_map];have:=hf'.np;omega) (by rw [List.length_map];have:=hf'.np';omega)
 have hE:a3d P G (M0 G (l3 P G) ext tab x9 d) none w.heap.size w I Gh.top:=⟨(a1O hm hext htab htabI d).1,(a1O hm hext htab htabI d).2,(fun _ h=>by cases h),(fun b h e=>by cases d <;>simp [M0] at e),fun n h=>by cases d <;>simp [M0] at h⟩
 refine wpIn_mono (a4L (ro:=none) hE hm (fun _=>rfl) c.body code hf'.code _ _ _ _ h hsim) fun e a w' he=>?_
 have fin:∀ s,(∃ b m,Y3 G s c.res=some [.own b 0 rows.length,.pv (.int kd nn)]∧a3X s.σ b=some (es,rows,m))→a1V P G w.heap.size w I .top c.ntmps s a w'→
  LeavesInM Fence.wide 0 P fn a.tmps (a4I w I [(0,0)] (.o0 [.sl es rows,.int kd nn])) a.defers .returning w':=by
  intro s ⟨b,m,hvs,hout⟩ ⟨_,_,I₁,ι,D,hx⟩
  obtain ⟨rs,m1,m2,m3⟩:=hx.dfs
  refine a1E (gh:=Gh.top) hf'.res hvs rs a.defers w' m1 m2 m3 hx fun w₂ v hx hrep=>?_
  refine ⟨P0 I₁ ι s.σ m,hx.core.below,fun a k h=>.inl (hx.core.ext a k h),fun a k hlt h=>?_,fun nm=>?_⟩
  ·rcases h with h | ⟨b,o,_,hf,_,hr,_⟩
   ·exact hx.core.old a k hlt h
   ·have:=hx.core.u6.ge b o a hf hr;omega
  ·cases hrep with
   | o0 hl hh=>
     rename_i cs
     have h0:∃ x,cs[0]?=some x:=⟨_,Array.getElem?_eq_getElem (by simp at hl;omega)⟩
     obtain ⟨x0,hx0⟩:=h0
     obtain ⟨o1,o2⟩:=b7R hx.core.u6 hout (hh 0 x0 _ hx0 rfl) nm
     refine ⟨_,o1,.o0 (by simpa using hl) fun j x q hxj hq=>?_⟩
     match j,hq with
     | 0,hq=>cases hq;rw [hx0] at hxj;cases hxj;exact o2
     | 1,hq=>cases hq;have:=a5y (hh 1 x _ hxj rfl);subst this;exact .pv (.int _ _)
 cases e with
 | normal=>obtain ⟨s,hq,hs⟩:=he;exact fin s hq hs
 | ret=>obtain ⟨s,hq,hs⟩:=he;exact fin s hq hs
 | exit i=>obtain ⟨s,hq,hs⟩:=he;exact hq.elim
 | goto l=>exact he.elim
 | panic ch=>exact he.elim
 | outgrown=>exact he.elim
end Go.Ab
namespace Go.Ab
open Go.RowKit Go.ChangeShapes Go.WideShapes
theorem b3h {H:Type} {enc:TypeId × Value→H} {P:Program} {f:Func} {s:ChangeSpec} {apart fresh handsOn again:Bool} {W W':World} {args:Array Value} {v:Value} {ds gs:List (DataW H)} {before pa pv:List MemPlace}
 (hW:DataW.Whole enc P f.params.toList s.vars apart W args.toList ds gs before)
 (hres:∀ (b:Nat) (sp:Nat→Bool) (hd:Bool),DataW.TrodAll enc P W' b sp hd f.resultTypes.toList (v.resultList f.resultTypes.size) (s.fn H (ds++gs)).results [])
 (hargs:∀ sp:Nat→Bool,(∀ p ∈ before,sp p.block=true)→DataW.TrodAll enc P W' 0 sp true f.params.toList args.toList (s.fn H (ds++gs)).args pa)
 (hvars:∀ sp:Nat→Bool,(∀ p ∈ before,sp p.block=true)→DataW.TrodVars enc P W' sp s.vars (s.fn H (ds++gs)).vars pv)
 (hps:before=pa++pv) (hb:Below W.heap.size W W')
 (hok:∀ (j:Nat) (t:TypeId) (r:Value),f.resultTypes[j]?=some t→(v.resultList f.resultTypes.size)[j]?=some r→Value.okWide P W' .any 0 t r):
 s.post enc P f apart fresh handsOn again W args v W':=by
 have hold:∀ p ∈ before,(fun b=>decide (b<W.heap.size)) p.block=true:=fun p hp=>by simpa using hW.lt p hp
 have hlt:=hW.lt
 refine ⟨ds,gs,before,[],pa,pv,hW,hres _ _ _,hargs _ hold,hvars _ hold,World.keptBut_mono (fun p hp=>⟨hp,?_⟩) (hb.frame (·∈ before)),fun _=>?_⟩
 ·rw [hps,List.mem_append] at hp
  exact Or.inr hp
 ·obtain ⟨_,_,_,_,_,hz,hn⟩:=hW
  refine ⟨hok,_,_,([]++pa)++pv,⟨[]++pa,pv,trodAll_append (hargs _ (fun _ _=>rfl)) (hres _ _ _),hvars _ (fun _ _=>rfl),rfl,?_,?_⟩,?_⟩
  ·intro b off hp
   have hp':MemPlace.cell b off ∈ before:=by rw [hps];simpa using hp
   have hl:b<W.heap.size:=hlt _ hp'
   rw [hb.frozen hl]
   exact hz b off hp'
  ·intro ha
   have:=hn ha
   rw [hps] at this
   simpa using this
  ·intro p hp _
   rw [hps]
   simpa using hp
end Go.Ab
namespace Go.Ab
def c0n:IntKind→Nat
 | .i8=>0 | .i16=>1 | .i32=>2 | .i64=>3 | .u8=>4 | .u16=>5 | .u32=>6 | .u64=>7
def c4x (k k':IntKind):Bool:=Nat.beq (c0n k) (c0n k')
theorem b7G (k k':IntKind):c4x k k'=decide (k=k'):=by cases k <;>cases k' <;>rfl
def b3U (k:IntKind) (n:Int):Int:=match k with
 | .i64=>(match n with
   | .ofNat m=>(match Nat.blt m 9223372036854775808 with | true=>.ofNat m | false=>IntKind.wrap .i64 (.ofNat m))
   | n=>IntKind.wrap .i64 n)
 | k=>IntKind.wrap k n
theorem c2l (k:IntKind) (n:Int):b3U k n=k.wrap n:=by
 cases k <;>try rfl
 cases n with
 | negSucc m=>rfl
 | ofNat m=>
   simp only [b3U]
   cases h:Nat.blt m 9223372036854775808 with
   | false=>rfl
   | true=>
     have hm:m<9223372036854775808:=a8D.1 h
     rw [IntKind.wrap_i64]
     simp only [Int.ofNat_eq_natCast]
     omega
def ltE:Int→Int→Bool
 | .ofNat m,.ofNat n=>Nat.blt m n
 | .ofNat _,.negSucc _=>false
 | .negSucc _,.ofNat _=>true
 | .negSucc m,.negSucc n=>Nat.blt n m
theorem c2G (a b:Int):ltE a b=true↔a<b:=by
 cases a <;>cases b <;>simp only [ltE,a8D] <;>first | omega | skip
 all_goals (simp;try omega)
theorem c4E (a b:Int):ltE a b=decide (a<b):=by
 rw [Bool.eq_iff_iff,c2G];simp
def eqE:Int→Int→Bool
 | .ofNat m,.ofNat n=>Nat.beq m n
 | .negSucc m,.negSucc n=>Nat.beq m n
 | _,_=>false
theorem c0c (a b:Int):eqE a b=(a==b):=by
 rw [Bool.eq_iff_iff]
 cases a <;>cases b <;>simp [eqE,Nat.beq_eq] <;>omega
def c3P (op:BinOp) (k:IntKind) (a b:Int):Option AV:=match op with
 | .add=>some (.pv (.int k (b3U k (a+b))))
 | .sub=>some (.pv (.int k (b3U k (a - b))))
 | .mul=>some (.pv (.int k (b3U k (a*b))))
 | .quo=>if b=0 then none else some (.pv (.int k (b3U k (a.tdiv b))))
 | .rem=>if b=0 then none else some (.pv (.int k (a.tmod b)))
 | .eql=>some (.pv (.bool (eqE a b)))
 | .neq=>some (.pv (.bool (!(eqE a b))))
 | .lss=>some (.pv (.bool (ltE a b)))
 | .leq=>some (.pv (.bool (!(ltE b a))))
 | .gtr=>some (.pv (.bool (ltE b a)))
 | .geq=>some (.pv (.bool (!(ltE a b))))
 | _=>none
def b6r (op:BinOp) (x y:AV):Option AV:=match x with
 | .pv p=>(match p with
   | .int k a=>(match y with
     | .pv q=>(match q with
       | .int k' b=>(match c4x k k' with | true=>c3P op k a b | false=>none)
       | _=>none)
     | _=>none)
   | _=>binop op x y)
 | _=>binop op x y
theorem b8m (op:BinOp) (x y:AV):b6r op x y=binop op x y:=by
 cases x with
 | pv p=>
   cases p with
   | int k a=>
     cases y with
     | pv q=>
       cases q with
       | int k' b=>
         simp only [b6r,binop,b7G]
         by_cases h:k=k'
         ·simp only [h,decide_true,if_true]
          cases op <;>simp only [c3P,c2l,c0c,c4E] <;>first | rfl | skip
          ·congr 3;rw [Bool.eq_iff_iff];simp
          ·congr 3;rw [Bool.eq_iff_iff];simp
         ·simp only [h,decide_false,if_false]
       | _=>cases op <;>rfl
     | _=>cases op <;>rfl
   | _=>rfl
 | _=>rfl
def b4M:Nat→AV→AV→Option Bool
 | 0,.pv (.int k a),.pv (.int k' b)=>(match c4x k k' with | true=>some (eqE a b) | false=>none)
 | k,a,b=>a5f k a b
theorem b6V (n:Nat) (a b:AV):b4M n a b=a5f n a b:=by
 unfold b4M
 split
 ·rename_i k a k' b
  simp only [a5f,b7G,c0c]
  by_cases h:k=k' <;>simp [h]
 ·rfl
end Go.Ab
namespace Go.Ab
def a8J:List Nat→List AV→List AV→Option Bool
 | [],[],[]=>some true
 | k::ks,a::l,b::m=>match b4M k a b with
   | some x=>match a8J ks l m with | some y=>some (x&&y) | none=>none
   | none=>none
 | _,_,_=>none
theorem b0B:∀ (ks:List Nat) (l m:List AV),a8J ks l m=a1N ks l m
 | [],[],[]=>rfl
 | k::ks,a::l,b::m=>by simp only [a8J,a1N,b6V,b0B ks l m];rfl
 | [],[],_::_=>rfl
 | [],_::_,_=>rfl
 | _::_,[],_=>rfl
 | _::_,_::_,[]=>rfl
def c5R (_σ:b7) (_nm:Nat) (ev:RA→AV) (x:RA):Option l7:=
 l7.of (ev x)
def c3d (_σ:b7) (_nm:Nat) (ev:RA→AV) (c:RA) (a:RA) (b:RA):Option l7:=
 match ev c with
  | .pv (.bool x)=>(match x with | true=>l7.of (ev a) | false=>l7.of (ev b))
  | _=>none
def c1m (_σ:b7) (nm:Nat) (_ev:RA→AV) (zero:List AV):Option l7:=
 some {v:=.ptr nm 0 0,up:=[(nm,some (.box zero.length [zero] false))]}
def c4R (_σ:b7) (nm:Nat) (ev:RA→AV) (n:Nat) (x:RA):Option l7:=
 if (ev x).cells.length=n∧v5 (ev x).cells=true then some {v:=.ptr nm 0 0,up:=[(nm,some (.box n [(ev x).cells] false))]} else none
def c3b (σ:b7) (_nm:Nat) (ev:RA→AV) (agg:Bool) (n:Nat) (x:RA):Option l7:=
 match ev x with
  | .ptr b i j=>match find σ b with
    | some o=>match o.row? i with
      | some row=>if j+n≤row.length then (match a2y agg ((row.drop j).take n) with | some v=>some {v:=v,rd:=[b]} | none=>none) else none
      | none=>none
    | none=>none
  | .pv (.ref cs)=>if n≤cs.length then (match a2y agg ((cs.take n).map .pv) with | some v=>some {v:=v} | none=>none) else none
  | _=>none
def c1z (σ:b7) (_nm:Nat) (ev:RA→AV) (n:Nat) (a:RA) (v:RA):Option l7:=
 match ev a with
  | .ptr b i j=>match find σ b with
    | some (.box es rows false)=>match rows[i]? with
      | some row=>if (ev v).cells.length=n∧j+n≤row.length∧v5 (ev v).cells=true then
       some {v:=.undef,rd:=[b],up:=[(b,some (.box es (rows.set i (F3 row j (ev v).cells)) false))]} else none
      | none=>none
    | some (.arr es rows false)=>match rows[i]? with
      | some row=>match T6 (ev v).cells with
        | some ps=>if (ev v).cells.length=n∧j+n≤row.length∧v5 (ev v).cells=true then
         some {v:=.undef,rd:=[b],up:=[(b,some (.arr es (rows.set i (row.take j++ps++row.drop (j+ps.length))) false))]} else none
        | none=>if (ev v).cells.length=n∧j+n≤row.length∧v5 (ev v).cells=true then
         some {v:=.undef,rd:=[b],up:=[(b,some (.box es ((rows.map (·.map AV.pv)).set i (F3 (row.map .pv) j (ev v).cells)) false))]} else none
      | none=>none
    | _=>none
  | _=>none
def c1n (_σ:b7) (_nm:Nat) (ev:RA→AV) (op:BinOp) (x:RA) (y:RA):Option l7:=
 match b6r op (ev x) (ev y) with | some v=>l7.of v | none=>none
def c1q (_σ:b7) (_nm:Nat) (ev:RA→AV) (neq:Bool) (kinds:List Nat) (x:RA) (y:RA):Option l7:=
 match a8J kinds (ev x).cells (ev y).cells with
  | some b=>if (ev x).a2n=true∧(ev y).a2n=true then l7.of (.pv (.bool (match neq with | true=>!b | false=>b))) else none
  | none=>none
def c4T (_σ:b7) (_nm:Nat) (ev:RA→AV) (neq:Bool) (x:RA) (y:RA):Option l7:=
 match ev x,ev y with
  | .pv (.bool a),.pv (.bool b)=>l7.of (.pv (.bool (match neq with | true=>!(a==b) | false=>a==b)))
  | _,_=>none
def c1v (σ:b7) (_nm:Nat) (ev:RA→AV) (neq:Bool) (x:RA):Option l7:=
 match (ev x).e with
  | .emp _=>l7.of (.pv (.bool (!neq)))
  | .fsl _ rows=>(match rows with | []=>l7.of .O5 | _::_=>l7.of (.pv (.bool neq)))
  | .pv (.sl _ rows)=>(match rows with | []=>l7.of .O5 | _::_=>l7.of (.pv (.bool neq)))
  | .own b _ n=>match find σ b with
    | some _=>(match n with | 0=>some {v:=.O5,rd:=[b]} | _+1=>some {v:=.pv (.bool neq),rd:=[b]})
    | none=>none
  | _=>none
def c4W (_σ:b7) (_nm:Nat) (ev:RA→AV) (x:RA):Option l7:=
 match ev x with | .pv (.bool b)=>l7.of (.pv (.bool (!b))) | _=>none
def c4V (_σ:b7) (_nm:Nat) (ev:RA→AV) (x:RA):Option l7:=
 match ev x with | .pv (.int k n)=>l7.of (.pv (.int k (k.wrap (0 - n)))) | _=>none
def c2Z (_σ:b7) (_nm:Nat) (ev:RA→AV) (k:IntKind) (x:RA):Option l7:=
 match ev x with | .pv (.int _ n)=>l7.of (.pv (.int k (k.wrap n))) | _=>none
def c3e (_σ:b7) (_nm:Nat) (ev:RA→AV) (x:RA):Option l7:=
 match ev x with | .pv (.str s)=>l7.of (.pv (.str s)) | _=>none
def c4X (_σ:b7) (nm:Nat) (ev:RA→AV) (x:RA):Option l7:=
 match ev x with
  | .pv (.str s)=>some {v:=.own nm 0 s.length,up:=[(nm,some (.arr 1 (s.map fun b=>[PV.int .u8 b.toNat]) false))]}
  | _=>none
def c4Q (σ:b7) (_nm:Nat) (ev:RA→AV) (x:RA):Option l7:=
 match l4 σ 1 (ev x) with
  | some (rows,rd)=>match R8 rows with | some s=>some {v:=.pv (.str s),rd:=rd} | none=>none
  | none=>none
def c4U (_σ:b7) (_nm:Nat) (ev:RA→AV) (fn:Fn) (first:List RA) (caps:List RA):Option l7:=
 l7.of (.func fn (first.map ev) (caps.map ev))
def c1w (_σ:b7) (nm:Nat) (_ev:RA→AV):Option l7:=
 some {v:=.a0u nm,up:=[(nm,some (.map []))]}
def b9q (σ:b7) (_nm:Nat) (ev:RA→AV) (m:RA) (k:RA) (v:RA):Option l7:=
 match ev m,ev k with
  | .a0u b,.pv (.str s)=>match find σ b with
    | some (.map ents)=>match m9 s ents with
      | none=>some {v:=.undef,rd:=[b],up:=[(b,some (.map (W5 s (ev v) ents)))]}
      | some _=>none
    | _=>none
  | _,_=>none
def b9s (σ:b7) (_nm:Nat) (ev:RA→AV) (m:RA) (k:RA) (zero:AV):Option l7:=
 match ev m,ev k with
  | .a0u b,.pv (.str s)=>match find σ b with
    | some (.map ents)=>some {v:=match m9 s ents with | some v=>.o0 [v,.pv (.bool true)] | none=>.o0 [zero,.pv (.bool false)],rd:=[b]}
    | _=>none
  | _,_=>none
def c1p (σ:b7) (_nm:Nat) (ev:RA→AV) (es:Nat) (zero:List PV) (x:RA):Option l7:=
 match ev x with
  | .own b i n=>match find σ b with
    | some (.arr es' rows false)=>if es'=es∧i+n≤rows.length∧0<n∧zero.length=es then some {v:=.o0 [],rd:=[b],up:=[(b,some (.arr es (rows.take i++List.replicate n zero++rows.drop (i+n)) false))]} else none
    | _=>none
  | _=>none
def c3c (_σ:b7) (nm:Nat) (ev:RA→AV) (es:Nat) (bytes:Nat) (zero:List PV) (n:RA):Option l7:=
 match idxOf (ev n) with
  | some k=>if 0≤k∧k*bytes≤2 ^ 40∧zero.length=es∧0<bytes then some {v:=.own nm 0 k.toNat,up:=[(nm,some (.arr es (List.replicate k.toNat zero) false))]} else none
  | none=>none
def c1y (σ:b7) (_nm:Nat) (ev:RA→AV) (es:Nat) (x:RA) (lo:Option RA) (hi:Option RA) (mx:Option RA):Option l7:=
 match (ev x).e with
  | .own b i n=>match find σ b with
    | some o=>match j4 ev 0 lo,j4 ev n hi,j4 ev ((o.len:Int) - i) mx with
      | some l,some h,some m=>if 0≤l∧l≤h∧h≤m∧(mx.isNone=true∨m≤n)∧o.es=es∧(mx.isNone=true∨(o.len:Int)≤i+m) then some {v:=.own b (i+l.toNat) (h - l).toNat,rd:=[b]} else none
      | _,_,_=>none
    | none=>none
  | .pv (.sl e rows)=>if e=es then step.sliceP ev es rows lo hi mx else none
  | .fsl e rows=>if e=es then step.sliceP ev es rows lo hi mx else none
  | .emp e=>match j4 ev 0 lo,j4 ev 0 hi,j4 ev 0 mx with
    | some l,some h,some m=>if l=0∧h=0∧m=0 then l7.of (.emp e) else none
    | _,_,_=>none
  | _=>none
def b9u (_σ:b7) (_nm:Nat) (ev:RA→AV) (x:RA) (lo:Option RA) (hi:Option RA):Option l7:=
 match ev x with
  | .pv (.str s)=>match j4 ev 0 lo,j4 ev s.length hi with
    | some l,some h=>if 0≤l∧l≤h∧h≤s.length then l7.of (.pv (.str ((s.take h.toNat).drop l.toNat))) else none
    | _,_=>none
  | _=>none
def c1r (σ:b7) (_nm:Nat) (ev:RA→AV) (x:RA) (off:Nat):Option l7:=
 match ev x with
  | .ptr b i j=>match find σ b with | some _=>some {v:=.ptr b i (j+off),rd:=[b]} | none=>none
  | .pv (.ref cs)=>l7.of (.pv (.ref (cs.drop off)))
  | _=>none
def c1s (_σ:b7) (_nm:Nat) (ev:RA→AV) (agg:Bool) (off:Nat) (n:Nat) (x:RA):Option l7:=
 if off+n≤(ev x).cells.length∧(ev x).a2n=true then (match a2y agg (((ev x).cells.drop off).take n) with | some v=>l7.of v | none=>none) else none
def c1t (σ:b7) (_nm:Nat) (ev:RA→AV) (es:Nat) (x:RA) (i:RA):Option l7:=
 match idxOf (ev i) with
  | some k=>match ev x with
    | .own b i n=>match find σ b with
      | some o=>if 0≤k∧k<n∧o.es=es then some {v:=.ptr b (i+k.toNat) 0,rd:=[b]} else none
      | none=>none
    | .pv (.sl e rows)=>if e=es then step.iaddrP k rows else none
    | .fsl e rows=>if e=es then step.iaddrP k rows else none
    | _=>none
  | none=>none
def c1x (σ:b7) (_nm:Nat) (ev:RA→AV) (len:Nat) (es:Nat) (x:RA) (i:RA):Option l7:=
 match idxOf (ev i) with
  | some k=>if 0≤k∧k<len then (match ev x with
    | .ptr b r j=>match find σ b with | some _=>some {v:=.ptr b r (j+k.toNat*es),rd:=[b]} | none=>none
    | .pv (.ref cs)=>l7.of (.pv (.ref (cs.drop (k.toNat*es))))
    | _=>none) else none
  | none=>none
def b9r (_σ:b7) (_nm:Nat) (ev:RA→AV) (neq:Bool) (x:RA):Option l7:=
 match ev x with
  | .func _ _ _=>l7.of (.pv (.bool neq))
  | .pv (.func _ _ _)=>l7.of (.pv (.bool neq))
  | .pv .nilFunc=>l7.of (.pv (.bool (!neq)))
  | _=>none
def c1u (_σ:b7) (_nm:Nat) (ev:RA→AV) (agg:Bool) (len:Nat) (es:Nat) (x:RA) (i:RA):Option l7:=
 match idxOf (ev i) with
  | some k=>if 0≤k∧k<len∧(ev x).cells.length=len*es∧(ev x).a2n=true then (match a2y agg (((ev x).cells.drop (k.toNat*es)).take es) with | some v=>l7.of v | none=>none) else none
  | none=>none
def b9t (_σ:b7) (_nm:Nat) (ev:RA→AV) (x:RA) (i:RA):Option l7:=
 match ev x,idxOf (ev i) with
  | .pv (.str s),some k=>if 0≤k then (match s[k.toNat]? with | some b=>l7.of (.pv (.int .u8 b.toNat)) | none=>none) else none
  | _,_=>none
def b7e (_σ:b7) (_nm:Nat) (ev:RA→AV) (x:RA) (i:Nat):Option l7:=
 match ev x with
  | .o0 vs=>match vs[i]? with | some v=>l7.of v | none=>none
  | .pv (.o0 ps)=>match ps[i]? with | some p=>l7.of (.pv p) | none=>none
  | _=>none
def c2Y (_σ:b7) (_nm:Nat) (_ev:RA→AV) (_u0:RA) (_u1:List RA):Option l7:=
 none
def c3f (σ:b7) (_nm:Nat) (ev:RA→AV) (x:RA):Option l7:=
 match (ev x).e with
  | .own b _ n=>match find σ b with | some _=>some {v:=.pv (.int .i64 n),rd:=[b]} | none=>none
  | .pv (.sl _ rows)=>l7.of (.pv (.int .i64 rows.length))
  | .fsl _ rows=>l7.of (.pv (.int .i64 rows.length))
  | .emp _=>l7.of (.pv (.int .i64 0))
  | _=>none
def b9v (_σ:b7) (_nm:Nat) (ev:RA→AV) (x:RA):Option l7:=
 match ev x with | .pv (.str s)=>l7.of (.pv (.int .i64 s.length)) | _=>none
def c2X (_σ:b7) (_nm:Nat) (_ev:RA→AV) (n:Nat):Option l7:=
 l7.of (.pv (.int .i64 n))
def b9p (σ:b7) (nm:Nat) (ev:RA→AV) (es:Nat) (bytes:Nat) (s:RA) (x:RA):Option l7:=
 match (ev s).e with
  | .emp _=>match rowsOf σ es (ev x) with
    | some (xs,rd)=>if xs.length*bytes≤2 ^ 40 then some {v:=.own nm 0 xs.length,rd:=rd,up:=[(nm,some (mkObj es xs))]} else none
    | none=>none
  | .fsl e rows=>match l4 σ es (ev x) with
    | some (xs,rd)=>if (rows.length+xs.length)*bytes≤2 ^ 40∧e=es then some {v:=.pv (.sl es (rows++xs)),rd:=rd} else none
    | none=>none
  | .own b 0 n=>match find σ b with
    | some (.arr es' rows sl)=>if rows.length=n∧es'=es then (match l4 σ es (ev x) with
      | some (xs,rd)=>if (n+xs.length)*bytes≤2 ^ 40 then some {v:=.own nm 0 (n+xs.length),rd:=b::rd,up:=[(b,none),(nm,some (.arr es (rows++xs) sl))]} else none
      | none=>match rowsOf σ es (ev x) with
        | some (xs,rd)=>if (n+xs.length)*bytes≤2 ^ 40 then some {v:=.own nm 0 (n+xs.length),rd:=b::rd,up:=[(b,none),(nm,some (.box es (rows.map (·.map AV.pv)++xs) sl))]} else none
        | none=>none) else (match sl with
          | true=>none
          | false=>match l4 σ es (ev x) with
            | some (xs,rd)=>if n+xs.length≤rows.length∧0<rows.length∧es'=es then some {v:=.own b 0 (n+xs.length),rd:=b::rd,up:=[(b,some (.arr es (rows.take n++xs++rows.drop (n+xs.length)) false))]} else none
            | none=>none)
    | some (.box es' rows sl)=>if rows.length=n∧es'=es then (match rowsOf σ es (ev x) with
      | some (xs,rd)=>if (n+xs.length)*bytes≤2 ^ 40 then some {v:=.own nm 0 (n+xs.length),rd:=b::rd,up:=[(b,none),(nm,some (.box es (rows++xs) sl))]} else none
      | none=>none) else none
    | _=>none
  | _=>none
def c3a (σ:b7) (_nm:Nat) (ev:RA→AV) (es:Nat) (d:RA) (s:RA):Option l7:=
 match ev d with
  | .own b i n=>match find σ b with
    | some (.arr es' rows false)=>if es'=es then (match l4 σ es (ev s) with
      | some (xs,rd)=>if i+n≤rows.length then
       some {v:=.pv (.int .i64 (min xs.length n:Nat)),rd:=b::rd,up:=[(b,some (.arr es (rows.take i++xs.take (min xs.length n)++rows.drop (i+min xs.length n)) false))]} else none
      | none=>none) else none
    | _=>none
  | _=>none
def c5Q (_σ:b7) (_nm:Nat) (ev:RA→AV) (isMax:Bool) (xs:List RA):Option l7:=
 match xs with
  | []=>none
  | x::l=>match mmF isMax ev (ev x) l with | some v=>l7.of v | none=>none
def c1o (_σ:b7) (_nm:Nat) (ev:RA→AV) (zeros:List AV) (parts:List (Nat × Nat × RA)):Option l7:=
 match a6t zeros (parts.map fun (o,n,x)=>(o,n,ev x)) with | some cs=>l7.of (.agg cs) | none=>none
def c4S (_σ:b7) (nm:Nat) (ev:RA→AV) (es:Nat) (n:Nat) (zeros:List AV) (parts:List (Nat × RA)):Option l7:=
 match a6t (List.replicate n zeros).flatten (parts.map fun (i,x)=>(i*es,es,ev x)) with
  | some cs=>if v5 cs=true then some {v:=.own nm 0 n,up:=[(nm,some (mkObj es (step.chop es n cs)))]} else none
  | none=>none
def b6a (σ:b7) (nm:Nat) (ev:RA→AV):ROp→Option l7
 | .mv x=>c5R σ nm ev x
 | .pick c a b=>c3d σ nm ev c a b
 | .alloc zero=>c1m σ nm ev zero
 | .box n x=>c4R σ nm ev n x
 | .load agg n x=>c3b σ nm ev agg n x
 | .store n a v=>c1z σ nm ev n a v
 | .bin op x y=>c1n σ nm ev op x y
 | .eqs neq kinds x y=>c1q σ nm ev neq kinds x y
 | .eqb neq x y=>c4T σ nm ev neq x y
 | .a9c neq x=>c1v σ nm ev neq x
 | .not x=>c4W σ nm ev x
 | .neg x=>c4V σ nm ev x
 | .conv k x=>c2Z σ nm ev k x
 | .same x=>c3e σ nm ev x
 | .s2b x=>c4X σ nm ev x
 | .b2s x=>c4Q σ nm ev x
 | .mkf fn first caps=>c4U σ nm ev fn first caps
 | .b0I=>c1w σ nm ev
 | .insert m k v=>b9q σ nm ev m k v
 | .lookup m k zero=>b9s σ nm ev m k zero
 | .clear es zero x=>c1p σ nm ev es zero x
 | .b3a es bytes zero n=>c3c σ nm ev es bytes zero n
 | .slice es x lo hi mx=>c1y σ nm ev es x lo hi mx
 | .a4G x lo hi=>b9u σ nm ev x lo hi
 | .b0 x off=>c1r σ nm ev x off
 | .field agg off n x=>c1s σ nm ev agg off n x
 | .i6 es x i=>c1t σ nm ev es x i
 | .a5Z len es x i=>c1x σ nm ev len es x i
 | .a6x neq x=>b9r σ nm ev neq x
 | .index agg len es x i=>c1u σ nm ev agg len es x i
 | .a8p x i=>b9t σ nm ev x i
 | .extract x i=>b7e σ nm ev x i
 | .call _u0 _u1=>c2Y σ nm ev _u0 _u1
 | .l8 x=>c3f σ nm ev x
 | .a0m x=>b9v σ nm ev x
 | .b8k n=>c2X σ nm ev n
 | .append es bytes s x=>b9p σ nm ev es bytes s x
 | .copy es d s=>c3a σ nm ev es d s
 | .mm isMax xs=>c5Q σ nm ev isMax xs
 | .build zeros parts=>c1o σ nm ev zeros parts
 | .G6 es n zeros parts=>c4S σ nm ev es n zeros parts
def ROp.b6B:ROp→Bool
 | .call _ _=>true
 | _=>false
theorem c1A (σ:b7) (nm:Nat) (ev:RA→AV) (op:ROp):b6a σ nm ev op=step σ nm ev op:=by
 cases op <;>first | rfl | (simp only [b6a,c1n,b8m];rfl) | (simp only [b6a,c1q,b0B];rfl)
end Go.Ab
namespace Go.Ab
inductive Way where
 | here
 | lft (p:Way)
 | rgt (p:Way)
def way:Nat→Nat→Way
 | 0,_=>.here
 | d+1,n=>match n % 2 with
   | 0=>.lft (way d (n / 2))
   | _=>.rgt (way d (n / 2))
def c5J (t:T):AV:=match t with | .leaf v=>v | _=>.undef
noncomputable def c5F (p:Way):T→AV:=Way.rec (motive:=fun _=>T→AV) (fun t=>c5J t) (fun _ ih t=>ih t.l) (fun _ ih t=>ih t.r) p
noncomputable def c2M (v:AV) (p:Way):T→T:=Way.rec (motive:=fun _=>T→T) (fun _=>.leaf v) (fun _ ih t=>.node (ih t.l) t.r) (fun _ ih t=>.node t.l (ih t.r)) p
theorem b4p:∀ (d:Nat) (t:T) (n:Nat),c5F (way d n) t=T.get d t n
 | 0,t,n=>by cases t <;>rfl
 | d+1,t,n=>by
   have hl:∀ (t:T),T.get (d+1) t n=match n % 2 with | 0=>T.get d t.l (n / 2) | _=>T.get d t.r (n / 2):=by
    intro t
    cases t with
    | node l r=>rfl
    | nil=>simp only [T.l,T.r,T.get];split <;>(cases d <;>rfl)
    | leaf x=>simp only [T.l,T.r,T.get];split <;>(cases d <;>rfl)
   rw [hl]
   simp only [way]
   rcases Nat.mod_two_eq_zero_or_one n with h | h <;>simp only [h]
   ·exact b4p d _ _
   ·exact b4p d _ _
theorem b4O (v:AV):∀ (d:Nat) (t:T) (n:Nat),c2M v (way d n) t=T.set d t n v
 | 0,t,n=>rfl
 | d+1,t,n=>by
   simp only [way,T.set]
   rcases Nat.mod_two_eq_zero_or_one n with h | h <;>simp only [h]
   ·show T.node (c2M v (way d (n / 2)) t.l) t.r=_
    rw [b4O v d]
   ·show T.node t.l (c2M v (way d (n / 2)) t.r)=_
    rw [b4O v d]
noncomputable def c2f (t:T) (n:Nat):AV:=c5F (way 10 n) t
noncomputable def c2h (t:T) (n:Nat) (v:AV):T:=c2M v (way 10 n) t
theorem c3w (t:T) (n:Nat):c2f t n=T.get d7 t n:=b4p 10 t n
theorem c3z (t:T) (n:Nat) (v:AV):c2h t n v=T.set d7 t n v:=b4O v 10 t n
noncomputable def evE (G:Gl) (st:St):RA→AV
 | .t n=>c2f st.tm n
 | .c v=>v
 | .f g=>.func (.func g) [] []
 | .g i=>match G i with | some cs=>.pv (.ref cs) | none=>.undef
theorem b1J (G:Gl) (st:St):evE G st=St.ev G st:=by
 funext r
 cases r with
 | t n=>exact c3w _ _
 | c v=>rfl
 | f g=>rfl
 | g i=>rfl
end Go.Ab
namespace Go.Ab
abbrev c2p:=List AV→b7→Nat→Option (AV × b7 × Nat × Nat)
noncomputable def b1g {α:Sort _} (st:St) (dst:Option Nat) (v:AV) (σ:b7) (K:St→α):α:=
 match st with
 | ⟨tm,_,nx,nt⟩=>match dst with
   | some d=>K ⟨c2h tm d v,σ,nx,nt⟩
   | none=>K ⟨tm,σ,nx,nt⟩
theorem a3Y {α:Sort _} (st:St) (dst:Option Nat) (v:AV) (σ:b7) (K:St→α):b1g st dst v σ K=K (D5 st dst v σ):=by
 obtain ⟨tm,s,nx,nt⟩:=st
 cases dst <;>simp [b1g,D5,c3z]
structure b2L where
 inl:Nat→Option a2A
 itr:Nat→Option (Nat→c2p→a2A)
 yld:Option (Nat × c2p)
 call:Nat→List PV→Option (Own × PV)
section
variable (G:Gl)
noncomputable def opE {β:Type} (C:Nat→List PV→Option (Own × PV)) (r:m7) (nm:Nat) (st:St) (K:St→Rec→Option β):Option β:=
 match r.op with
 | .call f args=>match S6 (evE G st f) with
   | some (g,a,b)=>match G.a9v g with
     | some p=>(match p.run (a++args.map (evE G st)++b) st.σ,st with
       | some (v,c,es,rows),⟨tm,σ,nx,nt⟩=>D3 c fun c'=>a2s σ [(c',some (.arr es rows false))] fun σ'=>b1g ⟨tm,σ,nx,nt⟩ r.dst v σ' fun st'=>K st' {rd:=[c'],sl:=[],wr:=[c'],pre:=r.pre}
       | none,_=>none)
     | none=>match a6O (pub st.σ 8) (a++args.map (evE G st)++b) with
       | some (ps,m)=>(match C g ps,st with
         | some (own,res),⟨tm,σ,nx,nt⟩=>match imp own nm res with
           | (v,up)=>a3w σ m fun σ₁=>a2s σ₁ up fun σ₂=>b1g ⟨tm,σ,nx,nt⟩ r.dst v σ₂ fun st'=>K st' {rd:=[],sl:=m,wr:=up.map (·.1),pre:=r.pre}
         | none,_=>none)
       | none=>none
   | none=>none
 | op=>match st with
   | ⟨tm,σ,nx,nt⟩=>match b6a σ nm (evE G ⟨tm,σ,nx,nt⟩) op with
     | some e=>b1g ⟨tm,σ,nx,nt⟩ r.dst e.v (m0 σ e.up) fun st'=>K st' (b2w (evE G ⟨tm,σ,nx,nt⟩) op e r.pre)
     | none=>none
noncomputable def b2Q {β:Type} (C:Nat→List PV→Option (Own × PV)) (r:m7) (nm:Nat) (st:St) (K:St→Rec→Option β):Option β:=
 match r.guard with
 | none=>opE G C r nm st K
 | some (t,want)=>match evE G st (.t t) with
   | .pv (.bool x)=>(match x,want with
     | true,true=>opE G C r nm st K
     | false,false=>opE G C r nm st K
     | _,_=>match st with | ⟨tm,σ,nx,nt⟩=>b1g ⟨tm,σ,nx,nt⟩ r.dst (.o0 []) σ fun st'=>K st' {rd:=[],sl:=[],wr:=[],pre:=r.pre})
   | .o0 []=>(match st with | ⟨tm,σ,nx,nt⟩=>b1g ⟨tm,σ,nx,nt⟩ r.dst (.o0 []) σ fun st'=>K st' {rd:=[],sl:=[],wr:=[],pre:=r.pre})
   | _=>none
noncomputable def opN {β:Type} (r:m7) (nm:Nat) (st:St) (K:St→Rec→Option β):Option β:=
 match st with
 | ⟨tm,σ,nx,nt⟩=>match b6a σ nm (evE G ⟨tm,σ,nx,nt⟩) r.op with
   | some e=>b1g ⟨tm,σ,nx,nt⟩ r.dst e.v (m0 σ e.up) fun st'=>K st' (b2w (evE G ⟨tm,σ,nx,nt⟩) r.op e r.pre)
   | none=>none
noncomputable def c4y {β:Type} (r:m7) (nm:Nat) (st:St) (K:St→Rec→Option β):Option β:=
 match r.guard with
 | none=>opN G r nm st K
 | some (t,want)=>match evE G st (.t t) with
   | .pv (.bool x)=>(match x,want with
     | true,true=>opN G r nm st K
     | false,false=>opN G r nm st K
     | _,_=>match st with | ⟨tm,σ,nx,nt⟩=>b1g ⟨tm,σ,nx,nt⟩ r.dst (.o0 []) σ fun st'=>K st' {rd:=[],sl:=[],wr:=[],pre:=r.pre})
   | .o0 []=>(match st with | ⟨tm,σ,nx,nt⟩=>b1g ⟨tm,σ,nx,nt⟩ r.dst (.o0 []) σ fun st'=>K st' {rd:=[],sl:=[],wr:=[],pre:=r.pre})
   | _=>none
theorem c2D {β:Type} (C:Nat→List PV→Option (Own × PV)) (r:m7) (nm:Nat) (st:St) (K:St→Rec→Option β) (h:r.op.b6B=false):c4y G r nm st K=b2Q G C r nm st K:=by
 have:opN G r nm st K=opE G C r nm st K:=by
  obtain ⟨dst,op,guard,pre⟩:=r
  cases op <;>first | rfl | cases h
 unfold c4y b2Q
 rw [this]
def b2v (r:Rec):Bool:=match r.rd,r.sl,r.wr,r.ins with
 | [],[],[],none=>true
 | _,_,_,_=>false
def a6W (r:Rec):Nat→List Rec→Bool
 | k+1,x::l=>(b2v x||(!x.a1Z r||r.pre.testBit k))&&a6W r k l
 | 0,_::_=>false
 | _,[]=>true
noncomputable def c0L {β:Type} (C:Nat→List PV→Option (Own × PV)):List m7→Nat→Nat→List Rec→St→(St→Option β)→Option β
 | [],_,_,_,st,K=>K st
 | r::l,nm,k,acc,st,K=>D3 nm fun nm'=>D3 k fun k'=>b2Q G C r nm' st fun st' rec=>match b2v rec||a6W rec k' acc with
   | true=>c0L C l (nm'+g9) (k'+1) (rec::acc) st' K
   | false=>none
noncomputable def b4d {β:Type} (h:a2A) (args:List AV) (dst:Option Nat) (st:St) (K:St→Option β):Option β:=
 match st with
 | ⟨tm,σ,nx,nt⟩=>match h args σ nx with
   | some (v,σ',nx')=>b1g ⟨tm,σ',nx',nt⟩ dst v σ' K
   | none=>none
noncomputable def b9S {β:Type} (h:c2p) (args:List AV) (dst:Option Nat) (st:St) (K:St→Option β):Option β:=
 match st with
 | ⟨tm,σ,nx,nt⟩=>match tm.get d7 L2 with
   | .mark 0=>(match h args σ nx with
     | some (v,σ',nx',pd)=>D3 pd fun pd'=>b1g ⟨T.set d7 tm L2 (.mark pd'),σ',nx',nt⟩ dst v σ' K
     | none=>none)
   | _=>none
noncomputable def b5o {β:Type} (E:b2L) (r:m7) (nm:Nat) (st:St) (K:St→Option β):Option β:=
 match r.op with
 | .call f args=>match evE G st f with
   | .yld b=>(match E.yld,r.guard with
     | some (b',h),none=>(match b'==b with
       | true=>b9S h (args.map (evE G st)) r.dst st K
       | false=>none)
     | _,_=>none)
   | fv=>match S6 fv with
     | some (g,a,b)=>(match E.inl g with
       | some h=>(match r.guard with
         | none=>b4d h (a++args.map (evE G st)++b) r.dst st K
         | some (t,want)=>match b4r (evE G st (.t t)) want with
           | true=>b4d h (a++args.map (evE G st)++b) r.dst st K
           | false=>b2Q G E.call r nm st fun st' _=>K st')
       | none=>b2Q G E.call r nm st fun st' _=>K st')
     | none=>b2Q G E.call r nm st fun st' _=>K st'
 | _=>b2Q G E.call r nm st fun st' _=>K st'
noncomputable def c4z {β:Type} (E:b2L) (r:m7) (nm:Nat) (st:St) (K:St→Option β):Option β:=
 match r.op.b6B with
 | true=>b5o G E r nm st K
 | false=>c4y G r nm st fun st' _=>K st'
theorem c2E {β:Type} (E:b2L) (r:m7) (nm:Nat) (st:St) (K:St→Option β):c4z G E r nm st K=b5o G E r nm st K:=by
 unfold c4z
 cases h:r.op.b6B with
 | true=>rfl
 | false=>
   simp only
   rw [c2D G E.call _ _ _ _ h]
   unfold b5o
   cases ho:r.op with
   | call f args=>rw [ho] at h;cases h
   | _=>rfl
noncomputable def b7Q {β:Type} (E:b2L):List m7→Nat→St→(St→Option β)→Option β
 | [],_,st,K=>K st
 | r::l,nm,st,K=>D3 nm fun nm'=>c4z G E r nm' st fun st'=>b7Q E l (nm'+g9) st' K
def b5z (live:List Nat) (F9:Bool) (f:St→Option (Ex × St)):Nat→St→Option (Ex × St)
 | 0,_=>none
 | n+1,s=>match (match F9 with | true=>a6F live s f | false=>f s) with
   | some (.normal,s')=>b5z live F9 f n s'
   | r=>r
def c5z:Ex→St→Option (AV × b7 × Nat × Nat)
 | .normal,⟨_,σ,nx,_⟩=>some (.pv (.bool true),σ,nx,0)
 | .ret,⟨_,σ,nx,_⟩=>some (.pv (.bool false),σ,nx,1)
 | .exit i,⟨_,σ,nx,_⟩=>some (.pv (.bool false),σ,nx,i+2)
def c3M (tm:T) (nt:Nat):AV × b7 × Nat→Option (Ex × St)
 | (.mark 0,σ,nx)=>some (.normal,⟨tm,σ,nx,nt⟩)
 | (.mark 1,σ,nx)=>some (.ret,⟨tm,σ,nx,nt⟩)
 | (.mark (k+2),σ,nx)=>some (.exit k,⟨tm,σ,nx,nt⟩)
 | _=>none
noncomputable def evC (fu:Nat):RC→Bool→b2L→St→Option (Ex × St)
 | .skip,_,_,st=>some (.normal,st)
 | .b6 ops draw,_,E,⟨tm,σ,nx,nt⟩=>D3 (nx+g9*ops.length) fun nx'=>(match draw with
   | true=>c0L G E.call ops nx 0 [] ⟨tm,σ,nx',nt⟩ fun st=>some (.normal,st)
   | false=>b7Q G E ops nx ⟨tm,σ,nx',nt⟩ fun st=>some (.normal,st))
 | .seq a b,F9,E,st=>match evC fu a F9 E st with
   | some (.normal,st')=>evC fu b F9 E st'
   | r=>r
 | .cond c a b,F9,E,st=>match evE G st c with
   | .pv (.bool x)=>(match x with | true=>evC fu a F9 E st | false=>evC fu b F9 E st)
   | _=>none
 | .block id b,F9,E,st=>match evC fu b F9 E st with
   | some (.exit i,st')=>(match i==id with | true=>some (.normal,st') | false=>some (.exit i,st'))
   | r=>r
 | .loop live b,F9,E,st=>b5z live F9 (fun s=>evC fu b F9 E s) fu st
 | .rng f ps as bd,_,E,⟨tm,σ,nx,nt⟩=>match S6 (evE G ⟨tm,σ,nx,nt⟩ f) with
   | some (g,a,b)=>(match E.itr g with
     | some it=>D3 (nx+1) fun nx1=>match it nx (fun args σ₁ nx₁=>match args.length==ps.length with
      | true=>b0T ps args tm fun tm'=>match evC fu as false ⟨E.inl,fun _=>none,none,E.call⟩ ⟨tm',σ₁,nx₁,nt⟩ with
        | some (.normal,s₁)=>(match evC fu bd false ⟨E.inl,fun _=>none,none,E.call⟩ s₁ with
          | some (e,s₂)=>c5z e s₂
          | none=>none)
        | _=>none
      | false=>none) (a++[.yld nx]++b) σ nx1 with
       | some r=>c3M tm nt r
       | none=>none
     | none=>none)
   | none=>none
 | .exit id,_,_,st=>some (.exit id,st)
 | .scope b,F9,E,st=>evC fu b F9 E st
 | .ret,_,_,st=>some (.ret,st)
noncomputable def c0U (rs:List a7M):Ex × St→Option (AV × b7 × Nat)
 | (.exit _,_)=>none
 | (_,⟨tm,σ,nx,nt⟩)=>match Y3 G ⟨tm,σ,nx,nt⟩ rs with
   | some vs=>C0 (a5d vs) fun v=>some (v,σ,nx)
   | none=>none
noncomputable def c0V:Ex × St→Option (AV × b7 × Nat)
 | (.exit _,_)=>none
 | (_,⟨tm,σ,nx,_⟩)=>C0 (tm.get d7 L2) fun v=>some (v,σ,nx)
noncomputable def c0X (rs:List a7M):Ex × St→Option PV
 | (.exit _,_)=>none
 | (_,st)=>match Y3 G st rs with
   | some vs=>(match pub st.σ 8 (a5d vs) with
     | some (p,_)=>some p
     | none=>none)
   | none=>none
noncomputable def c0W (rs:List a7M):Ex × St→Option (Own × PV)
 | (.exit _,_)=>none
 | (_,st)=>match Y3 G st rs with
   | some [.own b 0 n]=>(match a3X st.σ b with
     | some (es,rows,_)=>(match rows.length==n with | true=>some ([(0,0)],.sl es rows) | false=>none)
     | none=>none)
   | some [.own b 0 n,.pv (.int k i)]=>(match a3X st.σ b with
     | some (es,rows,_)=>(match rows.length==n with | true=>some ([(0,0)],.o0 [.sl es rows,.int k i]) | false=>none)
     | none=>none)
   | _=>none
noncomputable def a5s (kn:Nat→List PV→Option (Own × PV)) (ext:Nat→Option a2A) (tab x9 a2r a1e:Nat→Option n6) (fu:Nat):Nat→b2L
 | 0=>⟨fun _=>none,fun _=>none,none,fun _ _=>none⟩
 | d+1=>⟨fun g=>match ext g with
    | some r=>some r
    | none=>match tab g with
      | some c=>some fun args σ nx=>(match args.length==c.nparams with
        | true=>a7O 0 args .nil fun tm=>match evC G fu c.body false (a5s kn ext tab x9 a2r a1e fu d) ⟨tm,σ,nx,c.ntmps⟩ with
          | some r=>c0U G c.res r
          | none=>none
        | false=>none)
      | none=>none,
   fun g=>match x9 g with
    | some c=>some fun b h args σ nx=>(match args.length==c.nparams with
      | true=>a7O 0 args .nil fun tm=>match evC G fu c.body false ⟨(a5s kn ext tab x9 a2r a1e fu d).inl,(a5s kn ext tab x9 a2r a1e fu d).itr,some (b,h),(a5s kn ext tab x9 a2r a1e fu d).call⟩ ⟨T.set d7 tm L2 (.mark 0),σ,nx,c.ntmps⟩ with
        | some r=>c0V r
        | none=>none
      | false=>none)
    | none=>none,none,
   fun g ps=>match kn g ps with
    | some r=>some r
    | none=>match a2r g with
    | some c=>(match ps.length==c.nparams with
      | true=>a8B 0 ps .nil fun tm=>match evC G fu c.body true (a5s kn ext tab x9 a2r a1e fu d) ⟨tm,[],0,c.ntmps⟩ with
        | some r=>(match c0X G c.res r with | some p=>some ([],p) | none=>none)
        | none=>none
      | false=>none)
    | none=>match a1e g with
      | some c=>(match ps.length==c.nparams with
        | true=>a8B 0 ps .nil fun tm=>match evC G fu c.body true (a5s kn ext tab x9 a2r a1e fu d) ⟨tm,[],0,c.ntmps⟩ with
          | some r=>c0W G c.res r
          | none=>none
        | false=>none)
      | none=>none⟩
end
section
variable {P:Program} {G:Gl}
def c3H (hE:c2p) (h:b8j):Prop:=∀ args σ nx v σ' nx' pd (K:AV→b7→Nat→Nat→Prop),hE args σ nx=some (v,σ',nx',pd)→K v σ' nx' pd→h args σ nx K
def c3E (hE:a2A) (h:List AV→b7→Nat→(AV→b7→Nat→Prop)→Prop):Prop:=∀ args σ nx v σ' nx' (K:AV→b7→Nat→Prop),hE args σ nx=some (v,σ',nx')→K v σ' nx'→h args σ nx K
structure a5i (P:Program) (G:Gl) (EE:b2L) (E:Env):Prop where
 inl:∀ g hE,EE.inl g=some hE→∃ h,E.inl g=some h∧c3E hE h
 b7O:∀ g,EE.inl g=none→E.inl g=none
 itr:∀ g it,EE.itr g=some it→∃ it',E.itr g=some it'∧∀ b hE h,c3H hE h→c3E (it b hE) (it' b h)
 yld:∀ b hE,EE.yld=some (b,hE)→∃ h,E.yld=some (b,h)∧c3H hE h
 call:∀ g ps own r,EE.call g ps=some (own,r)→l3 P G g ps own r
theorem b0o {β:Type} {C:Nat→List PV→Option (Own × PV)} (hC:∀ g ps own r,C g ps=some (own,r)→l3 P G g ps own r) {r:m7} {nm:Nat} {st:St} {K:St→Rec→Option β} {b:β} (h:opE G C r nm st K=some b):
 ∃ st' rec,K st' rec=some b∧∀ KP:St→Rec→Prop,KP st' rec→opW G (l3 P G) r nm st KP:=by
 obtain ⟨tm,σ,nx,nt⟩:=st
 obtain ⟨dst,op,guard,pre⟩:=r
 unfold opE at h
 simp only [b1J] at h
 cases op with
 | call f args=>
   simp only at h
   split at h
   ·rename_i g a b' hca
    split at h
    ·rename_i p hp
     split at h
     ·rename_i v c es rows _ _ _ _ hres heq
      cases heq
      simp only [j7,H0,a3Y] at h
      refine ⟨_,_,h,fun KP hKP=>?_⟩
      unfold opW
      simp only [hca,hp,hres,j7,H0,I3]
      exact hKP
     ·cases h
    ·rename_i hnp
     split at h
     ·rename_i ps m hp
      split at h
      ·rename_i own res _ _ _ _ hres heq
       cases heq
       simp only [a2i,H0,a3Y] at h
       refine ⟨_,_,h,fun KP hKP=>?_⟩
       unfold opW
       simp only [hca,hnp,hp]
       refine ⟨own,res,hC _ _ _ _ hres,?_⟩
       simp only [H0,a2i,I3]
       exact hKP
      ·cases h
     ·cases h
   ·cases h
 | _=>
   simp only at h
   split at h
   ·rename_i e he
    rw [c1A] at he
    simp only [a3Y] at h
    refine ⟨_,_,h,fun KP hKP=>?_⟩
    unfold opW
    simp only [he,H0,I3]
    exact hKP
   ·cases h
theorem b1W {β:Type} {C:Nat→List PV→Option (Own × PV)} (hC:∀ g ps own r,C g ps=some (own,r)→l3 P G g ps own r) {r:m7} {nm:Nat} {st:St} {K:St→Rec→Option β} {b:β} (h:b2Q G C r nm st K=some b):
 ∃ st' rec,K st' rec=some b∧∀ KP:St→Rec→Prop,KP st' rec→a8Z G (l3 P G) r nm st KP:=by
 unfold b2Q at h
 simp only [b1J] at h
 unfold a8Z
 cases hg:r.guard with
 | none=>rw [hg] at h;exact b0o hC h
 | some tw=>
   obtain ⟨t,want⟩:=tw
   rw [hg] at h
   simp only at h ⊢
   split at h
   ·rename_i x hx
    simp only [hx]
    cases x <;>cases want <;>simp only at h ⊢
    ·exact b0o hC h
    ·obtain ⟨tm,σ,nx,nt⟩:=st
     simp only [a3Y] at h
     simp only [I3]
     exact ⟨_,_,h,fun KP hKP=>hKP⟩
    ·obtain ⟨tm,σ,nx,nt⟩:=st
     simp only [a3Y] at h
     simp only [I3]
     exact ⟨_,_,h,fun KP hKP=>hKP⟩
    ·exact b0o hC h
   ·rename_i hx
    simp only [hx]
    obtain ⟨tm,σ,nx,nt⟩:=st
    simp only [a3Y] at h
    simp only [I3]
    exact ⟨_,_,h,fun KP hKP=>hKP⟩
   ·cases h
theorem b0Q {a b:Rec} (h:b2v a=true):a.a1Z b=false∧b.a1Z a=false:=by
 obtain ⟨rd,sl,wr,pre,ins⟩:=a
 unfold b2v at h
 split at h
 ·rename_i h1 h2 h3 h4
  simp only at h1 h2 h3 h4
  subst h1;subst h2;subst h3;subst h4
  have m1:∀ l:List Nat,meets l []=false:=fun l=>by simp [meets]
  have m2:∀ l:List Nat,meets [] l=false:=fun l=>rfl
  refine ⟨?_,?_⟩
  ·simp only [Rec.a1Z,m2,Rec.a4S,Bool.or_false,Bool.false_or]
   cases hb:b.ins with
   | none=>rfl
   | some x=>rfl
  ·simp only [Rec.a1Z,m1,Rec.a4S,Bool.or_false,Bool.false_or]
   cases hb:b.ins with
   | none=>rfl
   | some x=>rfl
 ·cases h
def b4X (recs:List Rec):Prop:=∀ (i j:Nat) (x r:Rec),i<j→recs[i]?=some x→recs[j]?=some r→x.a1Z r=true→r.pre.testBit i=true
theorem a8O {r:Rec}:∀ (l:List Rec) (i:Nat),(∀ k x,l[k]?=some x→x.a1Z r=true→r.pre.testBit (i+k)=true)→a2X r i l=true
 | [],_,_=>rfl
 | y::l,i,h=>by
   simp only [a2X,Bool.and_eq_true,Bool.or_eq_true,Bool.not_eq_true']
   refine ⟨?_,a8O l (i+1) fun k x hx hc=>by have:=h (k+1) x (by simpa using hx) hc;rwa [show i+1+k=i+(k+1) by omega]⟩
   cases hc:y.a1Z r with
   | false=>exact .inl rfl
   | true=>exact .inr (h 0 y rfl hc)
theorem b3r:∀ (l done:List Rec),b4X (done++l)→e9 done l=true
 | [],_,_=>rfl
 | r::l,done,h=>by
   simp only [e9,Bool.and_eq_true]
   refine ⟨a8O done 0 fun k x hx hc=>?_,b3r l _ (by simpa using h)⟩
   have hk:=(List.getElem?_eq_some_iff.1 hx).1
   have:=h k done.length x r hk (by rw [List.getElem?_append_left hk];exact hx) (by simp) hc
   simpa using this
theorem a8P {r:Rec}:∀ (k:Nat) (acc:List Rec),a6W r k acc=true→acc.length≤k∧∀ i x,acc[i]?=some x→x.a1Z r=true→r.pre.testBit (k - 1 - i)=true
 | k,[],_=>⟨Nat.zero_le _,fun i x h=>by simp at h⟩
 | 0,_::_,h=>by simp [a6W] at h
 | k+1,y::acc,h=>by
   simp only [a6W,Bool.and_eq_true,Bool.or_eq_true,Bool.not_eq_true'] at h
   obtain ⟨h1,h2⟩:=a8P k acc h.2
   refine ⟨by simp;omega,fun i x hx hc=>?_⟩
   cases i with
   | zero=>
     simp at hx;subst hx
     rcases h.1 with hq | hq | hq
     ·rw [(b0Q hq).1] at hc;cases hc
     ·rw [hq] at hc;cases hc
     ·simpa using hq
   | succ i=>
     have:=h2 i x (by simpa using hx) hc
     rwa [show k+1 - 1 - (i+1)=k - 1 - i by omega]
theorem b4X.push {acc:List Rec} {r:Rec} (h:b4X acc.reverse) (hr:(b2v r||a6W r acc.length acc)=true):b4X (r::acc).reverse:=by
 intro i j x y hij hx hy hc
 rw [List.reverse_cons] at hx hy
 have hj:=(List.getElem?_eq_some_iff.1 hy).1
 simp only [List.length_append,List.length_reverse,List.length_cons,List.length_nil] at hj
 by_cases e:j=acc.length
 ·subst e
  rw [List.getElem?_append_right (by simp)] at hy
  simp at hy;subst hy
  rw [List.getElem?_append_left (by simpa using hij)] at hx
  rw [Bool.or_eq_true] at hr
  rcases hr with hq | hq
  ·rw [(b0Q hq).2] at hc;cases hc
  ·obtain ⟨_,h2⟩:=a8P _ _ hq
   rw [List.getElem?_reverse hij] at hx
   have:=h2 _ x hx hc
   rwa [show acc.length - 1 - (acc.length - 1 - i)=i by omega] at this
 ·rw [List.getElem?_append_left (by simp;omega)] at hx hy
  exact h i j x y hij hx hy hc
theorem b2m {β:Type} {C:Nat→List PV→Option (Own × PV)} (hC:∀ g ps own r,C g ps=some (own,r)→l3 P G g ps own r) {b:β}:∀ (l:List m7) (nm:Nat) (acc:List Rec) (st:St) (K:St→Option β),b4X acc.reverse→c0L G C l nm acc.length acc st K=some b→
 ∃ st',K st'=some b∧∀ KP:St→Prop,KP st'→b5J G (l3 P G) true l nm acc.reverse st KP
 | [],nm,acc,st,K,ha,h=>by
   simp only [c0L] at h
   exact ⟨st,h,fun KP hKP=>by simp only [b5J,b3r acc.reverse [] (by simpa using ha)];exact hKP⟩
 | r::l,nm,acc,st,K,ha,h=>by
   simp only [c0L,j7] at h
   obtain ⟨st₁,rec,h1,h2⟩:=b1W hC h
   split at h1
   ·rename_i hr
    obtain ⟨st₂,h3,h4⟩:=b2m hC l _ (rec::acc) _ _ (ha.push hr) (by simpa using h1)
    exact ⟨st₂,h3,fun KP hKP=>by simp only [b5J,j7];exact h2 _ (by have:=h4 KP hKP;simpa using this)⟩
   ·cases h1
theorem b5p {β:Type} {EE:b2L} {E:Env} (hL:a5i P G EE E) {r:m7} {nm:Nat} {st:St} {K:St→Option β} {b:β} (h:b5o G EE r nm st K=some b):
 ∃ st',K st'=some b∧∀ KP:St→Prop,KP st'→a9Z G (l3 P G) E r nm st KP:=by
 have plain:b2Q G EE.call r nm st (fun st' _=>K st')=some b→∃ st',K st'=some b∧∀ KP:St→Prop,KP st'→a8Z G (l3 P G) r nm st (fun st' _=>KP st'):=fun h=>by
  obtain ⟨st',rec,h1,h2⟩:=b1W hL.call h
  exact ⟨st',h1,fun KP hKP=>h2 _ hKP⟩
 unfold b5o at h
 simp only [b1J] at h
 unfold a9Z
 split at h
 ·rename_i f args hop
  simp only [hop]
  split at h
  ·rename_i y hy
   simp only [hy]
   split at h
   ·rename_i b' hE hEy hgd
    split at h
    ·rename_i hbb
     obtain ⟨hh,hhy,hlink⟩:=hL.yld _ _ hEy
     obtain ⟨tm,σ,nx,nt⟩:=st
     simp only [b9S] at h
     split at h
     ·rename_i hmk
      split at h
      ·rename_i v σ' nx' pd hrun
       simp only [j7,a3Y] at h
       refine ⟨_,h,fun KP hKP=>?_⟩
       simp only [hhy,hgd,hbb,b9R,hmk]
       refine hlink _ _ _ _ _ _ _ _ hrun ?_
       simp only [j7,Z3,I3]
       exact hKP
      ·cases h
     ·cases h
    ·cases h
   ·cases h
  ·rename_i hne
   split at h
   ·rename_i g a b' hca
    split at h
    ·rename_i hE hEi
     obtain ⟨hh,hhi,hlink⟩:=hL.inl _ _ hEi
     have inlined:b4d hE (a++args.map (st.ev G)++b') r.dst st K=some b→∃ st',K st'=some b∧∀ KP:St→Prop,KP st'→b3p hh (a++args.map (st.ev G)++b') r.dst st KP:=by
      intro h
      obtain ⟨tm,σ,nx,nt⟩:=st
      simp only [b4d] at h
      split at h
      ·rename_i v σ' nx' hrun
       simp only [a3Y] at h
       refine ⟨_,h,fun KP hKP=>?_⟩
       simp only [b3p]
       refine hlink _ _ _ _ _ _ _ hrun ?_
       simp only [I3]
       exact hKP
      ·cases h
     split at h
     ·rename_i hgd
      obtain ⟨st',h1,h2⟩:=inlined h
      refine ⟨st',h1,fun KP hKP=>?_⟩
      split
      ·rename_i y hy;exact absurd hy (hne y)
      ·simp only [hca,hhi,hgd]
       exact h2 KP hKP
     ·rename_i t want hgd
      split at h
      ·rename_i hon
       obtain ⟨st',h1,h2⟩:=inlined h
       refine ⟨st',h1,fun KP hKP=>?_⟩
       split
       ·rename_i y hy;exact absurd hy (hne y)
       ·simp only [hca,hhi,hgd,hon]
        exact h2 KP hKP
      ·rename_i hon
       obtain ⟨st',h1,h2⟩:=plain h
       refine ⟨st',h1,fun KP hKP=>?_⟩
       split
       ·rename_i y hy;exact absurd hy (hne y)
       ·simp only [hca,hhi,hgd,hon]
        exact h2 KP hKP
    ·rename_i hEi
     obtain ⟨st',h1,h2⟩:=plain h
     refine ⟨st',h1,fun KP hKP=>?_⟩
     split
     ·rename_i y hy;exact absurd hy (hne y)
     ·simp only [hca,hL.b7O _ hEi]
      exact h2 KP hKP
   ·rename_i hca
    obtain ⟨st',h1,h2⟩:=plain h
    refine ⟨st',h1,fun KP hKP=>?_⟩
    split
    ·rename_i y hy;exact absurd hy (hne y)
    ·simp only [hca]
     exact h2 KP hKP
 ·rename_i hno
  obtain ⟨st',h1,h2⟩:=plain h
  refine ⟨st',h1,fun KP hKP=>?_⟩
  split
  ·rename_i f args hop;exact absurd hop (hno f args)
  ·exact h2 KP hKP
theorem b0N {β:Type} {EE:b2L} {E:Env} (hL:a5i P G EE E) {b:β}:∀ (l:List m7) (nm:Nat) (st:St) (K:St→Option β),b7Q G EE l nm st K=some b→
 ∃ st',K st'=some b∧∀ KP:St→Prop,KP st'→a7s G (l3 P G) E l nm st KP
 | [],nm,st,K,h=>⟨st,h,fun KP hKP=>hKP⟩
 | r::l,nm,st,K,h=>by
   simp only [b7Q,j7,c2E] at h
   obtain ⟨st₁,h1,h2⟩:=b5p hL h
   obtain ⟨st₂,h3,h4⟩:=b0N hL l _ _ _ h1
   exact ⟨st₂,h3,fun KP hKP=>by simp only [a7s,j7];exact h2 _ (h4 KP hKP)⟩
theorem a4P {fu:Nat}:∀ (rc:RC) (F9:Bool) (EE:b2L) (E:Env),a5i P G EE E→∀ (st:St) (e:Ex) (st':St),evC G fu rc F9 EE st=some (e,st')→∀ Q:Ex→St→Prop,Q e st'→aw G (l3 P G) rc F9 E Q st:=by
 intro rc
 induction rc with
 | skip=>intro F9 EE E hL st e st' h Q hQ;simp only [evC] at h;cases h;exact hQ
 | b6 ops draw=>
   intro F9 EE E hL st e st' h Q hQ
   obtain ⟨tm,σ,nx,nt⟩:=st
   simp only [evC,j7] at h
   simp only [aw,j7]
   cases draw with
   | true=>
     obtain ⟨st₁,h1,h2⟩:=b2m hL.call ops nx [] _ _ (fun i j x r _ hx=>by simp at hx) h
     cases h1
     exact h2 _ hQ
   | false=>
     obtain ⟨st₁,h1,h2⟩:=b0N hL _ _ _ _ h
     cases h1
     exact h2 _ hQ
 | seq a b iha ihb=>
   intro F9 EE E hL st e st' h Q hQ
   simp only [evC] at h
   simp only [aw]
   split at h
   ·rename_i s₁ hs₁
    exact iha F9 EE E hL st _ _ hs₁ _ (ihb F9 EE E hL s₁ e st' h Q hQ)
   ·rename_i hne
    refine iha F9 EE E hL st e st' h _ ?_
    cases e with
    | normal=>exact absurd h (hne st')
    | exit i=>exact hQ
    | ret=>exact hQ
 | cond c a b iha ihb=>
   intro F9 EE E hL st e st' h Q hQ
   simp only [evC,b1J] at h
   simp only [aw,b5f]
   split at h
   ·rename_i x hx
    rw [hx]
    cases x
    ·exact ihb F9 EE E hL st e st' h Q hQ
    ·exact iha F9 EE E hL st e st' h Q hQ
   ·cases h
 | block id b ih=>
   intro F9 EE E hL st e st' h Q hQ
   simp only [evC] at h
   simp only [aw]
   split at h
   ·rename_i i s₁ hs₁
    refine ih F9 EE E hL st _ _ hs₁ _ ?_
    simp only [Ex.inBlock]
    split at h <;>cases h
    ·rename_i hi;simp only [hi];exact hQ
    ·rename_i hi;simp only [hi];exact hQ
   ·rename_i hne
    refine ih F9 EE E hL st e st' h _ ?_
    cases e with
    | normal=>exact hQ
    | exit i=>exact absurd h (hne i st')
    | ret=>exact hQ
 | loop live b ih=>
   intro F9 EE E hL st e st' h Q hQ
   simp only [evC] at h
   simp only [aw]
   intro X hX _
   have gen:∀ (n:Nat) (s:St),b5z live F9 (fun s=>evC G fu b F9 EE s) n s=some (e,st')→X s:=by
    intro n
    induction n with
    | zero=>intro s h;simp [b5z] at h
    | succ n ihn=>
      intro s h
      refine hX s ?_
      simp only [b5z] at h
      cases F9 with
      | true=>
        simp only [a6G] at h ⊢
        split at h
        ·rename_i s₁ hs₁
         exact ih true EE E hL _ _ _ hs₁ _ (ihn s₁ h)
        ·rename_i hne
         refine ih true EE E hL _ _ _ h _ ?_
         cases e with
         | normal=>exact absurd h (hne st')
         | exit i=>exact hQ
         | ret=>exact hQ
      | false=>
        simp only at h ⊢
        split at h
        ·rename_i s₁ hs₁
         exact ih false EE E hL _ _ _ hs₁ _ (ihn s₁ h)
        ·rename_i hne
         refine ih false EE E hL _ _ _ h _ ?_
         cases e with
         | normal=>exact absurd h (hne st')
         | exit i=>exact hQ
         | ret=>exact hQ
   exact gen _ _ h
 | rng f ps a b iha ihb=>
   intro F9 EE E hL st e st' h Q hQ
   obtain ⟨tm,σ,nx,nt⟩:=st
   simp only [evC,b1J] at h
   simp only [aw]
   split at h
   ·rename_i g xs ys hca
    simp only [hca]
    split at h
    ·rename_i it hit
     obtain ⟨it',hit',hlink⟩:=hL.itr _ _ hit
     simp only [hit',j7] at h ⊢
     split at h
     ·rename_i r hr
      obtain ⟨v,σ',nx'⟩:=r
      have hL':a5i P G ⟨EE.inl,fun _=>none,none,EE.call⟩ ⟨E.inl,fun _=>none,none,none⟩:=⟨hL.inl,hL.b7O,(fun _ _ h=>by cases h),(fun _ _ h=>by cases h),hL.call⟩
      refine hlink _ _ _ ?_ _ _ _ _ _ _ _ hr ?_
      ·intro args σ₁ nx₁ v σ₂ nx₂ pd K hrun hK
       dsimp only at hrun ⊢
       split at hrun
       ·rename_i hlen
        simp only [hlen]
        rw [b2E] at hrun ⊢
        split at hrun
        ·rename_i s₁ hs₁
         refine iha false _ _ hL' _ _ _ hs₁ _ ?_
         simp only [Ex.then]
         split at hrun
         ·rename_i e₂ s₂ hs₂
          refine ihb false _ _ hL' _ _ _ hs₂ _ ?_
          obtain ⟨tm₂,σ₃,nx₃,nt₃⟩:=s₂
          cases e₂ <;>simp only [c5z] at hrun <;>cases hrun <;>exact hK
         ·cases hrun
        ·cases hrun
       ·cases hrun
      ·unfold c3M at h
       unfold c3N
       split at h
       ·rename_i heq;cases heq;cases h;exact hQ
       ·rename_i heq;cases heq;cases h;exact hQ
       ·rename_i heq;cases heq;cases h;exact hQ
       ·cases h
     ·cases h
    ·cases h
   ·cases h
 | exit id=>intro F9 EE E hL st e st' h Q hQ;simp only [evC] at h;cases h;exact hQ
 | scope b ih=>intro F9 EE E hL st e st' h Q hQ;simp only [evC] at h;exact ih F9 EE E hL st e st' h Q hQ
 | ret=>intro F9 EE E hL st e st' h Q hQ;simp only [evC] at h;cases h;exact hQ
theorem b3u (hm:P.follows .mixedOrders=true) {kn:Nat→List PV→Option (Own × PV)} (hkn:∀ g ps own r,kn g ps=some (own,r)→l3 P G g ps own r) {ext:Nat→Option a2A} (hext:a3H P G fun g=>(ext g).map a6c) {tab x9 a2r a1e:Nat→Option n6} (htab:∀ g c,tab g=some c→d8 P g c=true) (htabI:∀ g c,x9 g=some c→S9 P g c=true) (htabC:∀ g c,a2r g=some c→d8 P g c=true) (htabO:∀ g c,a1e g=some c→d8 P g c=true) {fu:Nat}:
 ∀ d,a5i P G (a5s G kn ext tab x9 a2r a1e fu d) (M0 G (l3 P G) ext tab x9 d)
 | 0=>⟨(fun _ _ h=>by cases h),fun _ _=>rfl,(fun _ _ h=>by cases h),(fun _ _ h=>by cases h),(fun _ _ _ _ h=>by cases h)⟩
 | d+1=>by
   have ih:=b3u hm hkn hext htab htabI htabC htabO (fu:=fu) d
   refine ⟨fun g hE h=>?_,fun g h=>?_,fun g it h=>?_,(fun _ _ h=>by cases h),fun g ps own r h=>?_⟩
   ·simp only [a5s] at h
    simp only [M0]
    cases hx:ext g with
    | some r=>
      rw [hx] at h
      simp only at h
      cases h
      exact ⟨_,rfl,fun args σ nx v σ' nx' K hr hK=>by simp only [a6c,hr];exact hK⟩
    | none=>
      rw [hx] at h
      simp only at h ⊢
      split at h
      ·rename_i c hc
       cases h
       rw [hc]
       refine ⟨_,rfl,fun args σ nx v σ' nx' K hr hK=>?_⟩
       dsimp only at hr ⊢
       split at hr
       ·rename_i hlen
        simp only [hlen]
        rw [a2V] at hr ⊢
        split at hr
        ·rename_i r hr'
         obtain ⟨e,tm,σ₁,nx₁,nt⟩:=r
         have hL0:a5i P G (a5s G kn ext tab x9 a2r a1e fu d) ⟨(M0 G (l3 P G) ext tab x9 d).inl,(M0 G (l3 P G) ext tab x9 d).itr,none,some nx⟩:=
          ⟨ih.inl,ih.b7O,ih.itr,fun b h e=>by
           obtain ⟨_,e',_⟩:=ih.yld b h e
           cases d <;>simp [M0] at e',ih.call⟩
         refine a4P _ _ _ _ hL0 _ _ _ hr' _ ?_
         cases e with
         | exit i=>simp [c0U] at hr
         | _=>
           simp only [c0U] at hr
           simp only [b0s]
           split at hr
           ·rename_i vs hvs
            simp only [hvs,E3] at hr ⊢
            cases hr
            exact hK
           ·cases hr
        ·cases hr
       ·cases hr
      ·cases h
   ·simp only [a5s] at h
    simp only [M0]
    cases hx:ext g with
    | some r=>rw [hx] at h;cases h
    | none=>
      rw [hx] at h
      simp only at h ⊢
      split at h
      ·cases h
      ·rename_i hc;rw [hc]
   ·simp only [a5s] at h
    simp only [M0]
    split at h
    ·rename_i c hc
     cases h
     rw [hc]
     refine ⟨_,rfl,fun b hE hh hY args σ nx v σ' nx' K hr hK=>?_⟩
     dsimp only at hr ⊢
     split at hr
     ·rename_i hlen
      simp only [hlen]
      rw [a2V] at hr ⊢
      rw [Z3]
      split at hr
      ·rename_i r hr'
       obtain ⟨e,tm,σ₁,nx₁,nt⟩:=r
       have hL':a5i P G ⟨(a5s G kn ext tab x9 a2r a1e fu d).inl,(a5s G kn ext tab x9 a2r a1e fu d).itr,some (b,hE),(a5s G kn ext tab x9 a2r a1e fu d).call⟩ ⟨(M0 G (l3 P G) ext tab x9 d).inl,(M0 G (l3 P G) ext tab x9 d).itr,some (b,hh),some nx⟩:=
        ⟨ih.inl,ih.b7O,ih.itr,fun b' h' e=>by cases e;exact ⟨hh,rfl,hY⟩,ih.call⟩
       refine a4P _ _ _ _ hL' _ _ _ hr' _ ?_
       cases e with
       | exit i=>simp [c0V] at hr
       | _=>
         simp only [c0V,E3] at hr
         simp only [c5L,E3]
         cases hr
         exact hK
      ·cases hr
     ·cases hr
    ·cases h
   ·simp only [a5s] at h
    cases hk:kn g ps with
    | some p0=>rw [hk] at h;simp only at h;cases h;exact hkn g ps _ _ hk
    | none=>
    rw [hk] at h
    simp only at h
    split at h
    ·rename_i c hc
     split at h
     ·rename_i hlen
      rw [beq_iff_eq] at hlen
      rw [X4] at h
      split at h
      ·rename_i r' hr'
       obtain ⟨e,st⟩:=r'
       split at h
       ·rename_i p hp
        cases h
        refine b3J (c:=c) hm (htabC g c hc) hext htab htabI (d:=d) hlen ?_
        simp only [fnW,X4]
        refine a4P _ _ _ _ ih _ _ _ hr' _ ?_
        cases e with
        | exit i=>simp [c0X] at hp
        | _=>
          simp only [c0X] at hp
          simp only [c5N]
          split at hp
          ·rename_i vs hvs
           simp only [hvs]
           split at hp
           ·rename_i p' m hp'
            simp only [hp']
            cases hp
            rfl
           ·cases hp
          ·cases hp
       ·cases h
      ·cases h
     ·cases h
    ·split at h
     ·rename_i c hc
      split at h
      ·rename_i hlen
       rw [beq_iff_eq] at hlen
       rw [X4] at h
       split at h
       ·rename_i r' hr'
        obtain ⟨e,st⟩:=r'
        cases e with
        | exit i=>simp [c0W] at h
        | _=>
          simp only [c0W] at h
          split at h
          ·rename_i b n hvs
           split at h
           ·rename_i es rows m hf
            split at h
            ·rename_i hn
             rw [beq_iff_eq] at hn
             subst hn
             cases h
             refine b8O (c:=c) hm (htabO g c hc) hext htab htabI (d:=d) hlen ?_
             simp only [fnO,X4]
             exact a4P _ _ _ _ ih _ _ _ hr' _ ⟨b,m,hvs,hf⟩
            ·cases h
           ·cases h
          ·rename_i b n kd i hvs
           split at h
           ·rename_i es rows m hf
            split at h
            ·rename_i hn
             rw [beq_iff_eq] at hn
             subst hn
             cases h
             refine b6M (c:=c) hm (htabO g c hc) hext htab htabI (d:=d) hlen ?_
             simp only [c4o,X4]
             exact a4P _ _ _ _ ih _ _ _ hr' _ ⟨b,m,hvs,hf⟩
            ·cases h
           ·cases h
          ·cases h
       ·cases h
      ·cases h
     ·cases h
theorem b0n (hm:P.follows .mixedOrders=true) {kn:Nat→List PV→Option (Own × PV)} (hkn:∀ g ps own r,kn g ps=some (own,r)→l3 P G g ps own r) {ext:Nat→Option a2A} (hext:a3H P G fun g=>(ext g).map a6c) {tab x9 a2r a1e:Nat→Option n6} (htab:∀ g c,tab g=some c→d8 P g c=true) (htabI:∀ g c,x9 g=some c→S9 P g c=true) (htabC:∀ g c,a2r g=some c→d8 P g c=true) (htabO:∀ g c,a1e g=some c→d8 P g c=true) {fu d g:Nat} {ps:List PV} {own:Own} {r:PV}
 (h:(a5s G kn ext tab x9 a2r a1e fu d).call g ps=some (own,r)):l3 P G g ps own r:=(b3u hm hkn hext htab htabI htabC htabO d).call g ps own r h
end
end Go.Ab
namespace Go.Ab
inductive TF where
 | nil
 | leaf (g:Nat) (c:n6)
 | node (l r:TF)
def TF.get (n0:Nat):TF→Nat→Option n6
 | .leaf g c,_=>match g==n0 with | true=>some c | false=>none
 | .node l r,n=>match n % 2 with
   | 0=>TF.get n0 l (n / 2)
   | _=>TF.get n0 r (n / 2)
 | .nil,_=>none
def TF.fn (t:TF) (n:Nat):Option n6:=TF.get n t n
def TF.all (p:Nat→n6→Bool):TF→Bool
 | .nil=>true
 | .leaf g c=>p g c
 | .node l r=>TF.all p l&&TF.all p r
theorem TF.b4q {p:Nat→n6→Bool} {n0:Nat} {c:n6}:∀ (t:TF) (n:Nat),t.all p=true→TF.get n0 t n=some c→p n0 c=true
 | .nil,n,_,h=>by simp [TF.get] at h
 | .leaf g c',n,ha,h=>by
   simp only [TF.get] at h
   split at h
   ·rename_i hg
    cases h
    rw [beq_iff_eq] at hg
    subst hg
    exact ha
   ·cases h
 | .node l r,n,ha,h=>by
   simp only [TF.all,Bool.and_eq_true] at ha
   simp only [TF.get] at h
   split at h
   ·exact TF.b4q l _ ha.1 h
   ·exact TF.b4q r _ ha.2 h
theorem TF.d6 {p:Nat→n6→Bool} {t:TF} (ha:t.all p=true) (g:Nat) (c:n6) (h:t.fn g=some c):p g c=true:=TF.b4q t g ha h
end Go.Ab
