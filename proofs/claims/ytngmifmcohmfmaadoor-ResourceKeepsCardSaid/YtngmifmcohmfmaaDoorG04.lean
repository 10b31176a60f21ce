/- A part of the proof: the texts Ab32w, Ab33, Ab34a, Ab34b, Ab34, Ab35, Ab35a, Ab35b, Ab35c, Ab36, Ab37, Ab38. Under: nothing. -/
import Derived.Test.YtngmifmcohmfmaaDoorG03
import Derived.Control
import Derived.RangeFuncRecord
import Derived.ChangeSame
import Derived.IntWalk
set_option linter.unusedVariables false
namespace Go.Ab
open Go.RowKit
section
variable {B:Nat} {w0:World} {I0:y8} {w:World} {I:y8} {ι:Nat→Option Nat} {σ:b8} {D:Nat→Prop}
theorem b0m {v:Value} {a:AV} {es:Nat} (h:j1 w I ι σ D v a) (he:a.e= .emp es):v= .slice none 0 0:=by
 have:=h.e
 rw [he] at this
 cases this
 rfl
theorem b3F (es:Nat):B6 w I (.slice none 0 0) (.sl es []):=
 .sl (fun _ _=>default) rfl (Nat.le_refl _) (fun i row h=>by simp at h) (fun h=>absurd rfl h) (fun i j row q h=>by simp at h)
theorem B7.b9t (hs:B7 B w I ι σ D) {b i j es:Nat} {rows:List (List AV)} {row:List AV} {a0 a1:AV} (hb:find σ b=some (.box es rows false)) (hr:rows[i]?=some row) (hj:row[j]?=some a0)
 (ha:∀ x,j1 w I ι σ D x a0→j1 w I ι σ D x a1):
 B7 B w I ι (U8 σ b (some (.box es (rows.set i (row.set j a1)) false))) D∧v9 w I ι σ D w I ι (U8 σ b (some (.box es (rows.set i (row.set j a1)) false))) D:=by
 have key:∀ b' o₁,find (U8 σ b (some (.box es (rows.set i (row.set j a1)) false))) b'=some o₁→(b'=b∧o₁= .box es (rows.set i (row.set j a1)) false)∨(b'≠b∧find σ b'=some o₁):=by
  intro b' o₁ h
  rw [n6] at h
  by_cases e:b'=b
  ·rw [if_pos e] at h;cases h;exact .inl ⟨e,rfl⟩
  ·rw [if_neg e] at h;exact .inr ⟨e,h⟩
 have hL:v9 w I ι σ D w I ι (U8 σ b (some (.box es (rows.set i (row.set j a1)) false))) D:=by
  refine ⟨⟨fun r' k v hi hx=>⟨hx,hi⟩,fun _ h=>h,fun b' o₁ hD h=>?_,fun r₁ c₁ T₁ fz₁ h₁=>⟨c₁,fz₁,h₁,rfl⟩,fun _ _=>rfl⟩,fun _ _ _ h=>h⟩
  rcases key b' o₁ h with ⟨rfl,rfl⟩ | ⟨_,h⟩
  ·exact ⟨_,hb,rfl,by simp [g8.len],rfl⟩
  ·exact ⟨o₁,h,rfl,rfl,rfl⟩
 refine ⟨⟨hs.bnd,fun b' o₁ h=>?_,fun b₁ b₂ o₁ o₂ r' h₁ h₂ e₁ e₂=>?_,fun b' o₁ r' h e=>?_,fun b' o₁ r' k h e hi=>?_,fun b' o₁ h=>?_⟩,hL⟩
 ·rcases key b' o₁ h with ⟨rfl,rfl⟩ | ⟨_,h⟩
  ·exact hs.dom _ _ hb
  ·exact hs.dom b' o₁ h
 ·rcases key b₁ o₁ h₁ with ⟨rfl,rfl⟩ | ⟨n₁,g₁⟩ <;>rcases key b₂ o₂ h₂ with ⟨rfl,rfl⟩ | ⟨n₂,g₂⟩
  ·rfl
  ·exact hs.inj _ _ _ _ r' hb g₂ e₁ e₂
  ·exact hs.inj _ _ _ _ r' g₁ hb e₁ e₂
  ·exact hs.inj _ _ _ _ r' g₁ g₂ e₁ e₂
 ·rcases key b' o₁ h with ⟨rfl,rfl⟩ | ⟨_,h⟩
  ·exact hs.ge _ _ r' hb e
  ·exact hs.ge b' o₁ r' h e
 ·rcases key b' o₁ h with ⟨rfl,rfl⟩ | ⟨_,h⟩
  ·have:=(hs.sep _ _ r' k hb e hi).1
   simp [g8.N5] at this
  ·exact hs.sep b' o₁ r' k h e hi
 ·rcases key b' o₁ h with ⟨rfl,rfl⟩ | ⟨_,h⟩
  ·have hob:B8 w I ι σ D b' (.box es rows false):=hs.obj _ _ hb
   show B8 w I ι _ D b' (.box es (rows.set i (row.set j a1)) false)
   rcases hob with ⟨h1,h2⟩ | ⟨r,c,T,fz,h1,h2,h3,h4,h5⟩
   ·exact .inl ⟨h1,by simpa [g8.len] using h2⟩
   ·refine .inr ⟨r,c,T,fz,h1,h2,h3,by simpa [g8.len,g8.es] using h4,fun i' row' hrow=>?_⟩
    simp only [g8.row?,List.getElem?_set] at hrow
    split at hrow
    ·rename_i e
     subst e
     split at hrow
     ·cases hrow
      obtain ⟨k1,k2⟩:=h5 i row (by simpa [g8.row?] using hr)
      refine ⟨by simpa [g8.es] using k1,fun j' v hv=>?_⟩
      rw [List.getElem?_set] at hv
      split at hv
      ·rename_i e
       subst e
       split at hv
       ·cases hv
        obtain ⟨x,hx,hrep⟩:=k2 j a0 hj
        exact ⟨x,hx,hrep.1,(ha x hrep.2).mono hL⟩
       ·cases hv
      ·obtain ⟨x,hx,hrep⟩:=k2 j' v hv
       exact ⟨x,hx,hrep.mono hL⟩
     ·cases hrow
    ·obtain ⟨k1,k2⟩:=h5 i' row' (by simpa [g8.row?] using hrow)
     refine ⟨k1,fun j' v hv=>?_⟩
     obtain ⟨x,hx,hrep⟩:=k2 j' v hv
     exact ⟨x,hx,hrep.mono hL⟩
  ·exact (hs.obj b' o₁ h).mono hL rfl fun _ _=>rfl
theorem a0D.c4d {P:Program} {G:Gl} {gh:Gh} {m:Option (Nat × List Nat)} {s s':St} {a:Act} (hx:a0D P G B w0 I0 gh (fun b=>b<s.nx) s a w I ι D) (hn0:gh.n0≤s.nx) (hm:∀ n l,m=some (n,l)→n=gh.n0∧∀ v av,gh.gs v av→b9g n av) (hw:Wk m s s'):
 ∃ ι' D',a0D P G B w0 I0 gh (fun b=>b<s'.nx) s' a w I ι' D':=by
 have hn:¬ D s.nx:=fun h=>absurd (hx.names _ h) (Nat.lt_irrefl _)
 have sets:∀ (t:Nat) (av:AV) (σ':b8) (ι':Nat→Option Nat) (D':Nat→Prop) (nx':Nat),t<1024→(∀ k,s.tm.get e9 t≠ .mark k)→B7 B w I ι' σ' D'→v9 w I ι s.σ D w I ι' σ' D'→j1 w I ι' σ' D' (a.tmps.getD t undef) av→(∀ b,D' b→b<nx')→(∀ b,D' b→gh.D0 b∨gh.n0≤b)→
  a0D P G B w0 I0 gh (fun b=>b<nx') ⟨s.tm.set e9 t av,σ',nx',s.nt⟩ a w I ι' D':=by
  intro t av σ' ι' D' nx' ht hmk hS hL hrep hnm hbs
  refine ⟨⟨hS,hx.core.below,hx.core.hB,hx.core.ext,hx.core.old⟩,hnm,hx.dfs,hx.size,hx.X9,fun t' ht'=>?_,fun v av h=>(hx.ghost v av h).mono hL,hbs,hx.kept,fun p hp=>?_⟩
  ·show j1 w I ι' σ' D' _ (T.get e9 (T.set e9 s.tm t av) t')
   rw [I3,Nat.mod_eq_of_lt (show t'<2 ^ e9 from ht'),Nat.mod_eq_of_lt (show t<2 ^ e9 from ht)]
   by_cases e:t'=t
   ·subst e;rw [if_pos rfl];exact hrep
   ·rw [if_neg e];exact (hx.tm t' ht').mono hL
  ·obtain ⟨h1,h2,k,h3,h4⟩:=hx.loop p hp
   refine ⟨h1,h2,k,?_,h4⟩
   show T.get e9 (T.set e9 s.tm t av) K9=_
   rw [I3,Nat.mod_eq_of_lt (show K9<2 ^ e9 by decide),Nat.mod_eq_of_lt (show t<2 ^ e9 from ht)]
   rw [if_neg (fun e:K9=t=>hmk k (by rw [← e];exact h3))]
   exact h3
 have boxs:∀ (σ':b8) (ι':Nat→Option Nat) (D':Nat→Prop) (nx':Nat),B7 B w I ι' σ' D'→v9 w I ι s.σ D w I ι' σ' D'→(∀ b,D' b→b<nx')→(∀ b,D' b→gh.D0 b∨gh.n0≤b)→
  a0D P G B w0 I0 gh (fun b=>b<nx') ⟨s.tm,σ',nx',s.nt⟩ a w I ι' D':=by
  intro σ' ι' D' nx' hS hL hnm hbs
  exact ⟨⟨hS,hx.core.below,hx.core.hB,hx.core.ext,hx.core.old⟩,hnm,hx.dfs,hx.size,hx.X9,fun t' ht'=>(hx.tm t' ht').mono hL,fun v av h=>(hx.ghost v av h).mono hL,hbs,hx.kept,hx.loop⟩
 have nmA:∀ b,a1K D s.nx b→b<s.nx+1:=fun b hb=>hb.elim (fun h=>Nat.lt_succ_of_lt (hx.names b h)) (fun e=>by subst e;exact Nat.lt_succ_self _)
 have bsA:∀ b,a1K D s.nx b→gh.D0 b∨gh.n0≤b:=fun b hb=>hb.elim (hx.base b) (fun e=>.inr (e ▸ hn0))
 have own0:∀ es,j1 w I (n9 ι s.nx none) (U8 s.σ s.nx (some (.arr es [] false))) (a1K D s.nx) (.slice none 0 0) (.own s.nx 0 0):=fun es=>
  .own (.inr rfl) rfl fun o ho=>by
   rw [n6,if_pos rfl] at ho
   cases ho
   exact ⟨none,0,rfl,Nat.le_refl _,⟨Nat.le_refl _,Nat.le_refl _⟩,.inl ⟨rfl,rfl⟩⟩
 cases hw with
 | G5 n0 live h=>
   obtain ⟨e,hl⟩:=hm n0 live h
   subst e
   exact hx.b2A hl live
 | tmp t es ht h=>
   obtain ⟨hS,hL⟩:=hx.core.x3.empty (nm:=s.nx) (o:=.arr es [] false) hn rfl rfl
   refine ⟨_,_,sets t _ _ _ _ _ ht (fun k e=>by rw [e] at h;cases h) hS hL ?_ nmA bsA⟩
   rw [b0m (hx.tm t ht) h]
   exact own0 es
 | c5F t es ht h=>
   refine ⟨_,_,sets t _ _ _ _ _ ht (fun k e=>by rw [e] at h;cases h) hx.core.x3 .refl ?_ hx.names hx.base⟩
   rw [b0m (hx.tm t ht) h]
   exact .pv (b3F es)
 | box b i j es' es hb hr hj h=>
   obtain ⟨hS,hL⟩:=hx.core.x3.empty (nm:=s.nx) (o:=.arr es [] false) hn rfl rfl
   have hbn:b≠s.nx:=fun e=>hn (e ▸ hx.core.x3.dom _ _ hb)
   obtain ⟨hS2,hL2⟩:=hS.b9t (b:=b) (a1:=.own s.nx 0 0) (by rw [n6,if_neg hbn];exact hb) hr hj (fun x hx'=>by rw [b0m hx' h];exact own0 es)
   exact ⟨_,_,boxs _ _ _ _ hS2 (hL.trans hL2) nmA bsA⟩
 | c4o b i j es' es hb hr hj h=>
   obtain ⟨hS2,hL2⟩:=hx.core.x3.b9t (b:=b) (a1:=.pv (.sl es [])) hb hr hj (fun x hx'=>by rw [b0m hx' h];exact .pv (b3F es))
   exact ⟨_,_,boxs _ _ _ _ hS2 hL2 hx.names hx.base⟩
end
end Go.Ab
namespace Go.Ab
open Go.RowKit
section scope
variable {P:Program} {b:Frame} {a:Act} {k:List Item} {cs:List Frame} {w:World} {Q:Exit→Act→World→Prop} {F:Fence} {n:Nat}
theorem Z3 {c:Code}:Go.step P (lone (b.atR a (.code (.scope c)::k)) cs w)= .next (lone (b.atR a (.code c:: .inScope c::k)) cs w):=
 step_lone_go (by simp [stepG,stepG.exec,Frame.atR])
theorem b2c {c:Code}:Go.step P (lone (b.atR a (.inScope c::k)) cs w)= .next (lone (b.atR a k) cs w):=
 step_lone_go (by simp [stepG,stepG.exec,Frame.atR])
theorem a6O {c:Code} (h:c.wpIn F n P Q a w) (hg:∀ l a w,¬ Q (.goto l) a w):(Code.scope c).wpIn F n P Q a w:=by
 intro b k cs hro hb hr
 have h0:(lone (b.atR a (.code (.scope c)::k)) cs w).fenced P F:=fenced_calm hb hr rfl
 obtain ⟨e,a₁,w₁,hq,harr⟩:=h b (.inScope c::k) cs hro hb hr
 cases e with
 | normal=>exact ⟨.normal,a₁,w₁,hq,.head h0 Z3 (StepsIn.trans harr (.one (fenced_calm hb hr rfl) b2c))⟩
 | exit id=>
   have hx:exitTo id (.inScope c::k)=exitTo id k:=by simp [exitTo]
   exact ⟨.exit id,a₁,w₁,hq,fun k' hk=>.head h0 Z3 (harr.1 k' (by rw [hx];exact hk)),
    fun hr' hk=>let ⟨k₁,h1,h2⟩:=harr.2 hr' (by rw [hx];exact hk);⟨k₁,h1,.head h0 Z3 h2⟩⟩
 | goto l=>exact (hg _ _ _ hq).elim
 | ret=>exact ⟨_,a₁,w₁,hq,.of_steps (.one h0 Z3) harr⟩
 | panic ch=>exact ⟨_,a₁,w₁,hq,.of_steps (.one h0 Z3) harr⟩
 | outgrown=>exact ⟨_,a₁,w₁,hq,.of_steps (.one h0 Z3) harr⟩
def a4x (F:Fence) (n:Nat) (P:Program) (c:Code) (Q:Exit→Act→World→Prop) (a:Act) (w:World):Prop:=
 ∀ (b:Frame) (k:List Item) (cs:List Frame),b.roundOf=F.round→F.fn b.fn→F.room (cs.length+1+n)→
   ∃ e a' w',Q e a' w'∧ArrivesIn (Machine.fenced P F) P (lone (b.atR a (.code c:: .inLoop c::k)) cs w) b k cs e a' w'
theorem a4x.wpIn {c:Code} (h:a4x F n P c Q a w):(Code.loop c).wpIn F n P Q a w:=fun b k cs hro hb hr=>
 let ⟨e,a',w',q,r⟩:=h b k cs hro hb hr;⟨e,a',w',q,.of_steps (.one (fenced_calm hb hr rfl) stepR_loop) r⟩
theorem a4x.round {c:Code} (h:c.wpIn F n P (Exit.then (a4x F n P c Q) Q) a w):a4x F n P c Q a w:=by
 intro b k cs hro hb hr
 obtain ⟨e,a₁,w₁,hq,harr⟩:=h b (.inLoop c::k) cs hro hb hr
 cases e with
 | normal=>
   obtain ⟨e₂,a₂,w₂,hq₂,harr₂⟩:=hq b k cs hro hb hr
   exact ⟨e₂,a₂,w₂,hq₂,.of_steps (StepsIn.trans harr (.one (fenced_calm hb hr rfl) stepR_inLoop)) harr₂⟩
 | exit id=>exact ⟨_,a₁,w₁,hq,.pass (x:=.inLoop c) rfl (fun _ _=>.inl (by simp)) harr⟩
 | goto l=>exact ⟨_,a₁,w₁,hq,.pass (x:=.inLoop c) rfl (fun _ _=>.inl (by simp)) harr⟩
 | ret=>exact ⟨_,a₁,w₁,hq,.pass (x:=.inLoop c) rfl (fun _ _=>.inl (by simp)) harr⟩
 | panic ch=>exact ⟨_,a₁,w₁,hq,.pass (x:=.inLoop c) rfl (fun _ _=>.inl (by simp)) harr⟩
 | outgrown=>exact ⟨_,a₁,w₁,hq,.pass (x:=.inLoop c) rfl (fun _ _=>.inl (by simp)) harr⟩
end scope
def a0T (P:Program) (nt:Nat):Code→RC→Bool
 | .skip,.skip=>true
 | .label _,.skip=>true
 | .region _ ops d,.b9 rs d'=>(d==d'&&b0z P nt ops rs d)||(d&&(!d'&&b2V P nt ops rs))
 | .seq a b,.seq a' b'=>a0T P nt a a'&&a0T P nt b b'
 | .cond c a b,.cond c' a' b'=>k9 c c'&&(a0T P nt a a'&&a0T P nt b b')
 | .block i b,.block j b'=>i==j&&a0T P nt b b'
 | .loop b,.loop _ b'=>a0T P nt b b'
 | .rangeFunc g ps a b,.rng f ps' a' b'=>k9 g f&&(ps.toList==ps'&&(ps'.all (fun t=>decide (t<nt)&&decide (t<1024))&&(a0T P nt a a'&&a0T P nt b b')))
 | .exit i,.exit j=>i==j
 | .scope b,.scope b'=>a0T P nt b b'
 | .ret,.ret=>true
 | _,_=>false
section
variable {P:Program} {G:Gl} {B:Nat} {w0:World} {I0:y8} {gh:Gh} {nt n:Nat} {ro:Option Nat}
def a3P:List Nat→List AV→T→T
 | p::ps,a::as,tm=>a3P ps as (tm.set e9 p a)
 | _,_,tm=>tm
theorem b1x {α:Sort _}:∀ (ps:List Nat) (as:List AV) (tm:T) (K:T→α),a9E ps as tm K=K (a3P ps as tm)
 | p::ps,a::as,tm,K=>by simp only [a9E,a3P,H2,W8];exact b1x ps as _ K
 | [],_,_,_=>by simp [a9E,a3P]
 | _::_,[],_,_=>by simp [a9E,a3P]
theorem b2H {w:World} {I:y8} {ι:Nat→Option Nat} {σ:b8} {D:Nat→Prop}:∀ (ps:List Nat) (xs:List Value) (as:List AV) (tmps:Array Value) (tm:T),xs.length=as.length→(∀ p ∈ ps,p<tmps.size∧p<1024)→
 (∀ (j:Nat) (x:Value) (q:AV),xs[j]?=some x→as[j]?=some q→j1 w I ι σ D x q)→(∀ t,t<1024→j1 w I ι σ D (tmps.getD t undef) (tm.get e9 t))→
 ((ps.zip xs).foldl (fun tmps x=>tmps.setIfInBounds x.1 x.2) tmps).size=tmps.size∧∀ t,t<1024→j1 w I ι σ D (((ps.zip xs).foldl (fun tmps x=>tmps.setIfInBounds x.1 x.2) tmps).getD t undef) ((a3P ps as tm).get e9 t)
 | p::ps,x::xs,a::as,tmps,tm,hl,hp,ha,ht=>by
   simp only [List.zip_cons_cons,List.foldl_cons,a3P]
   obtain ⟨h1,h2⟩:=hp p (by simp)
   have:=b2H ps xs as (tmps.setIfInBounds p x) (tm.set e9 p a) (by simpa using hl) (fun q hq=>by simpa using hp q (by simp [hq])) (fun j y q hy hq=>ha (j+1) y q (by simpa using hy) (by simpa using hq)) (fun t htl=>by
    rw [I3]
    have e1:t % 2 ^ e9=t:=Nat.mod_eq_of_lt htl
    have e2:p % 2 ^ e9=p:=Nat.mod_eq_of_lt h2
    rw [e1,e2]
    by_cases e:t=p
    ·subst e
     rw [if_pos rfl]
     have:(tmps.setIfInBounds t x).getD t undef=x:=by simp [Array.getD,h1]
     rw [this];exact ha 0 x a rfl rfl
    ·rw [if_neg e]
     have:(tmps.setIfInBounds p x).getD t undef=tmps.getD t undef:=by
      simp only [Array.getD_eq_getD_getElem?]
      rw [Array.getElem?_setIfInBounds_ne (fun h=>e h.symm)]
     rw [this];exact ht t htl)
   exact ⟨by rw [this.1];simp,this.2⟩
 | [],_,_,tmps,tm,_,_,_,ht=>by simp only [List.zip_nil_left,List.foldl_nil,a3P];exact ⟨trivial,ht⟩
 | _::_,[],[],tmps,tm,_,_,_,ht=>by simp only [List.zip_nil_right,List.foldl_nil,a3P];exact ⟨trivial,ht⟩
 | _::_,[],_::_,_,_,hl,_,_,_=>by simp at hl
 | _::_,_::_,[],_,_,hl,_,_,_=>by simp at hl
variable (P G B w0 I0 gh nt) in
def a1w (s:St) (a:Act) (w:World):Prop:=s.nt=nt∧gh.n0≤s.nx∧Sim P G B w0 I0 gh (fun b=>b<s.nx) s a w
theorem a1w.c4d {m:Option (Nat × List Nat)} {s s':St} {a:Act} {w:World} (hm:∀ n l,m=some (n,l)→n=gh.n0∧∀ v av,gh.gs v av→b9g n av) (h:a1w P G B w0 I0 gh nt s a w) (hw:Wk m s s'):a1w P G B w0 I0 gh nt s' a w:=by
 obtain ⟨h1,h2,I,ι,D,hx⟩:=h
 obtain ⟨ι',D',hx'⟩:=hx.c4d h2 hm hw
 refine ⟨?_,?_,I,ι',D',hx'⟩
 ·cases hw <;>exact h1
 ·cases hw with
  | G5 n0 live h=>
    rw [(hm n0 live h).1]
    show gh.n0≤(a5y gh.n0 live s).length
    unfold a5y
    simp
  | tmp=>exact Nat.le_succ_of_le h2
  | c5F=>exact h2
  | box=>exact Nat.le_succ_of_le h2
  | c4o=>exact h2
variable (P G B w0 I0 gh nt) in
def a9A (Q:Ex→St→Prop):Exit→Act→World→Prop
 | .normal,a,w=>∃ s,Q .normal s∧a1w P G B w0 I0 gh nt s a w
 | .exit i,a,w=>∃ s,Q (.exit i) s∧a1w P G B w0 I0 gh nt s a w
 | .ret,a,w=>∃ s,Q .ret s∧a1w P G B w0 I0 gh nt s a w
 | _,_,_=>False
theorem a2v.counts {Ok:Nat→List PV→Own→PV→Prop} {ins:Nat→p8} {nmf:Nat→Nat} {dat:Nat→Dat}:∀ (L:List Nat) {st sf:St},a2v G Ok ins nmf dat L st sf→sf.nx=st.nx∧sf.nt=st.nt
 | [],_,_,h=>⟨h.nx,h.nt⟩
 | i::L,st,sf,h=>by
   have:=a2v.counts L h.2
   simp only [T9,after,a8x,a1r] at this
   exact this
theorem b7J {E:Env} {G5:Bool} (hE:a2u P G E ro B w0 I0 gh) (hm:P.follows .mixedOrders=true) {id:Nat} {ops:Array Oper} {rs:List p8} {draw:Bool} (hk:b0z P nt ops rs draw=true) {Q:Ex→St→Prop} {s:St} {a:Act} {w:World}
 (h:aw G (l9 P G) (.b9 rs draw) G5 E Q s) (hs:a1w P G B w0 I0 gh nt s a w):(Code.region id ops draw).wpIn (Fw ro) n P (a9A P G B w0 I0 gh nt Q) a w:=by
 obtain ⟨hnt,hn0,hsim⟩:=hs
 obtain ⟨tm,σ,nx,nt'⟩:=s
 simp only at hnt hn0
 subst hnt
 simp only [aw,m7] at h
 simp only [b0z,Bool.and_eq_true,Bool.or_eq_true,Bool.not_eq_true'] at hk
 obtain ⟨hall,hdr⟩:=hk
 obtain ⟨hlen,hins⟩:=a5L hall
 have hsz:rs.length=ops.size:=by rw [← hlen];simp
 have hgetD:∀ i r,rs[i]?=some r→rs.getD i default=r:=fun i r h=>by simp [List.getD,h]
 have hins':∀ i o,ops[i]?=some o→a0V P ops nt' o (rs.getD i default)=true:=by
  intro i o ho
  have hlt:i<rs.length:=by rw [hsz];exact (Array.getElem?_eq_some_iff.1 ho).1
  rw [hgetD i _ (List.getElem?_eq_getElem hlt)]
  exact hins i o _ (by simpa using ho) (List.getElem?_eq_getElem hlt)
 have hnew:∀ b,b<nx→∀ j,¬ Names (nx+j4*j) b:=fun b hb j hn=>by have h2:=hn.1;omega
 cases draw with
 | false=>
   simp only at h
   refine wpIn_region ?_
   rw [List.range_eq_range',← hsz]
   refine b1r (nx0:=nx) (KK:=Q .normal) hE rs hsz hins' hn0 (fun s' a' w' hq hnt' hnx' hs=>⟨s',hq,hnt',by omega,hs⟩) rs 0 _ a w rfl (by omega) rfl (by rw [hsz];exact Nat.le_refl _) h ?_
   obtain ⟨I,ι,D,hx⟩:=hsim
   exact ⟨I,ι,D,hx.core,fun b hb=>⟨Nat.lt_of_lt_of_le (hx.names b hb) (Nat.le_add_right _ _),fun j _=>hnew b (hx.names b hb) j⟩,hx.dfs,hx.size,hx.X9,hx.tm,hx.ghost,hx.base,hx.kept,hx.loop⟩
 | true=>
   simp only at h
   obtain ⟨dat,sf,hrun,hq,hcomp⟩:=b4J rs nx true rs 0 [] _ _ rfl h
   obtain ⟨hfx,hft⟩:=hrun.counts
   simp only at hfx hft
   have hQ:∀ a' w',Sim P G B w0 I0 gh (fun b=>b<nx+j4*ops.size) sf a' w'→a9A P G B w0 I0 gh nt' Q .normal a' w':=fun a' w' hs=>
    ⟨sf,hq,hft,by rw [hfx];omega,hs.weaken fun b hb=>by rw [hfx,hsz];exact hb⟩
   have hsim':∀ w',Sim P G B w0 I0 gh (fun b=>b<nx) ⟨tm,σ,nx,nt'⟩ a w'→Sim P G B w0 I0 gh (NL nx (nx+j4*ops.size) (List.range' 0 ops.size)) ⟨tm,σ,nx+j4*ops.size,nt'⟩ a w':=by
    intro w' hs
    obtain ⟨I,ι,D,hx⟩:=hs
    exact ⟨I,ι,D,hx.core,fun b hb=>⟨Nat.lt_of_lt_of_le (hx.names b hb) (Nat.le_add_right _ _),fun j _=>hnew b (hx.names b hb) j⟩,hx.dfs,hx.size,hx.X9,hx.tm,hx.ghost,hx.base,hx.kept,hx.loop⟩
   rw [hsz] at hrun
   have hdr:a5H [] rs=true∧a7l rs 0 ops.toList rs=true:=by simpa using hdr
   refine wpIn_region_any hm ?_
   have hpre:∀ i o,ops[i]?=some o→(∀ x,(rs.getD i default).pre.testBit x=true→∃ e ∈ o.after.toList,Region.binds .any e=true∧(e.on=x∨(rs.getD e.on default).pre.testBit x=true))∧∀ e ∈ o.after.toList,Region.binds .any e=true→e.on<i:=by
    intro i o ho
    have hlt:i<rs.length:=by rw [hsz];exact (Array.getElem?_eq_some_iff.1 ho).1
    rw [hgetD i _ (List.getElem?_eq_getElem hlt)]
    have:=a5N hdr.2 i o _ (by simpa using ho) (List.getElem?_eq_getElem hlt)
    simpa using this
   have hcomp:=hcomp rfl
   refine b5A hins' hpre (fun i j hij hj=>?_) (fun i j hij hj hc=>?_) hn0 hQ ops.size _ (List.range' 0 ops.size) _ a _ (by simp) (by simp) List.pairwise_lt_range' (fun i=>?_) (fun j hj hl=>?_) rfl hrun (hsim' _ hsim.drew)
   ·have h1:i<rs.length:=by omega
    have h2:j<rs.length:=by omega
    rw [hgetD i _ (List.getElem?_eq_getElem h1),hgetD j _ (List.getElem?_eq_getElem h2)]
    exact a3u rs [] hdr.1 i j _ _ hij (by simp) (by simp) (by simp)
   ·have g:∀ k,k<rs.length→(([]:List Rec)++(List.range' 0 rs.length).map fun i=>(dat i).a1I (rs.getD i default))[k]?=some ((dat k).a1I (rs.getD k default)):=by
     intro k hk
     simp [hk]
    exact a9v _ [] hcomp i j _ _ hij (by simp) (g i (by omega)) (g j (by omega)) hc
   ·rw [List.mem_range'_1]
    constructor
    ·intro h;exact ⟨by omega,by simp [Array.getD,show i<ops.size by omega]⟩
    ·intro h;exact ⟨Nat.zero_le _,by omega⟩
   ·simp [hj] at hl
theorem b5h {E:Env} {G5:Bool} (hE:a2u P G E ro B w0 I0 gh) (hm:P.follows .mixedOrders=true) {id:Nat} {ops:Array Oper} {rs:List p8} (hk:b2V P nt ops rs=true) {Q:Ex→St→Prop} {s:St} {a:Act} {w:World}
 (h:aw G (l9 P G) (.b9 rs false) G5 E Q s) (hs:a1w P G B w0 I0 gh nt s a w):(Code.region id ops true).wpIn (Fw ro) n P (a9A P G B w0 I0 gh nt Q) a w:=by
 obtain ⟨hnt,hn0,hsim⟩:=hs
 obtain ⟨tm,σ,nx,nt'⟩:=s
 simp only at hnt hn0
 subst hnt
 simp only [aw,m7] at h
 simp only [b2V,b0z,Bool.and_eq_true,Bool.or_eq_true,Bool.not_eq_true',Bool.true_eq_false,false_or] at hk
 obtain ⟨⟨hall,hdr⟩,hcalm⟩:=hk
 obtain ⟨hlen,hins⟩:=a5L hall
 have hsz:rs.length=ops.size:=by rw [← hlen];simp
 have hgetD:∀ i r,rs[i]?=some r→rs.getD i default=r:=fun i r h=>by simp [List.getD,h]
 have hins':∀ i o,ops[i]?=some o→a0V P ops nt' o (rs.getD i default)=true:=by
  intro i o ho
  have hlt:i<rs.length:=by rw [hsz];exact (Array.getElem?_eq_some_iff.1 ho).1
  rw [hgetD i _ (List.getElem?_eq_getElem hlt)]
  exact hins i o _ (by simpa using ho) (List.getElem?_eq_getElem hlt)
 have hnew:∀ b,b<nx→∀ j,¬ Names (nx+j4*j) b:=fun b hb j hn=>by have h2:=hn.1;omega
 refine wpIn_region_any hm ?_
 have hpre:∀ i o,ops[i]?=some o→(∀ x,(rs.getD i default).pre.testBit x=true→∃ e ∈ o.after.toList,Region.binds .any e=true∧(e.on=x∨(rs.getD e.on default).pre.testBit x=true))∧∀ e ∈ o.after.toList,Region.binds .any e=true→e.on<i:=by
  intro i o ho
  have hlt:i<rs.length:=by rw [hsz];exact (Array.getElem?_eq_some_iff.1 ho).1
  rw [hgetD i _ (List.getElem?_eq_getElem hlt)]
  have:=a5N hdr.2 i o _ (by simpa using ho) (List.getElem?_eq_getElem hlt)
  simpa using this
 have hrun:=c0Y (G:=G) (nx0:=nx) rs rs 0 _ _ rfl h
 rw [hsz] at hrun
 refine b4N (nx0:=nx) (KK:=Q .normal) hE hins' hpre (fun i j hij hj=>?_) (fun i j hij hj=>?_) hn0 (fun s' a' w' hq hnt' hnx' hs=>⟨s',hq,hnt',by omega,hs⟩) ops.size _ (List.range' 0 ops.size) _ a _ (by simp) (by simp) List.pairwise_lt_range' (fun i=>?_) (fun j hj hl=>?_) rfl (by simp) hrun ?_
 ·have h1:i<rs.length:=by omega
  have h2:j<rs.length:=by omega
  rw [hgetD i _ (List.getElem?_eq_getElem h1),hgetD j _ (List.getElem?_eq_getElem h2)]
  exact a3u rs [] hdr.1 i j _ _ hij (by simp) (by simp) (by simp)
 ·have h1:i<rs.length:=by omega
  have h2:j<rs.length:=by omega
  rw [hgetD i _ (List.getElem?_eq_getElem h1),hgetD j _ (List.getElem?_eq_getElem h2)]
  exact a7O rs [] hcalm i j _ _ hij (by simp) (by simp) (by simp)
 ·rw [List.mem_range'_1]
  constructor
  ·intro h;exact ⟨by omega,by simp [Array.getD,show i<ops.size by omega]⟩
  ·intro h;exact ⟨Nat.zero_le _,by omega⟩
 ·simp [hj] at hl
 ·obtain ⟨I,ι,D,hx⟩:=hsim.drew
  exact ⟨I,ι,D,hx.core,fun b hb=>⟨Nat.lt_of_lt_of_le (hx.names b hb) (Nat.le_add_right _ _),fun j _=>hnew b (hx.names b hb) j⟩,hx.dfs,hx.size,hx.X9,hx.tm,hx.ghost,hx.base,hx.kept,hx.loop⟩
def Sound (P:Program) (G:Gl) (B:Nat) (w0:World) (I0:y8) (nt:Nat) (rc:RC):Prop:=
 ∀ (code:Code),a0T P nt code rc=true→∀ (n:Nat) (ro:Option Nat) (gh:Gh) (E:Env) (G5:Bool),a2u P G E ro B w0 I0 gh→(G5=true→gh=Gh.top)→
   ∀ (Q:Ex→St→Prop) (s:St) (a:Act) (w:World),aw G (l9 P G) rc G5 E Q s→a1w P G B w0 I0 gh nt s a w→code.wpIn (Fw ro) n P (a9A P G B w0 I0 gh nt Q) a w
theorem c4e {E:Env} {p:a3s} {ps:List Nat} {x y:RC} {tm:T} (ihx:Sound P G B w0 I0 nt x) (ihy:Sound P G B w0 I0 nt y) (hinl:a5t P G E.inl) (hkx:a0T P nt p.data.assign x=true) (hky:a0T P nt p.data.body y=true)
 (hps:p.data.params.toList=ps) (hall:∀ t ∈ ps,t<nt∧t<1024) (hsz:p.data.tmps.size=nt) {gs:Value→AV→Prop} (hgs:∀ t,t<1024→gs (p.data.tmps.getD t undef) (tm.get e9 t)) (hBl:B≤p.l):
 b8F P G p (fun args σ₁ nx₁ K=>match args.length==ps.length with
       | true=>a9E ps args tm fun tm'=>aw G (l9 P G) x false ⟨E.inl,fun _=>none,none,none⟩ (Ex.then (aw G (l9 P G) y false ⟨E.inl,fun _=>none,none,none⟩ (c4u K)) fun _ _=>False) ⟨tm',σ₁,nx₁,nt⟩
       | false=>False) B w0 I0 gs:=by
 intro args σ₁ nx₁ K hh gs' w₂ I₂ ι₂ D₂ vs hgs' hc hDn hgl hvl har hgr hrec
 split at hh
 ·rename_i hlen
  rw [beq_iff_eq] at hlen
  rw [b1x] at hh
  have hpsz:vs.size=p.data.params.size:=by rw [hvl,hlen,← hps];simp
  refine ⟨hpsz,roundIn_of_wpIn trivial ?_⟩
  have hE1:∀ gh1:Gh,a2u P G ⟨E.inl,fun _=>none,none,none⟩ (some p.l) B w0 I0 gh1:=fun gh1=>⟨hinl,fun g it h=>(by cases h),fun _ _ _=>rfl,fun b h e=>(by cases e),fun n h=>(by cases h)⟩
  have hfold:(p.data.params.zip vs).foldl (fun tmps (x:Tmp × Value)=>tmps.setIfInBounds x.1 x.2) p.data.tmps=(ps.zip vs.toList).foldl (fun tmps x=>tmps.setIfInBounds x.1 x.2) p.data.tmps:=by
   rw [← Array.foldl_toList,Array.toList_zip,hps]
  obtain ⟨q1,q2⟩:=b2H (w:=w₂) (I:=I₂) (ι:=ι₂) (σ:=σ₁) (D:=D₂) ps vs.toList args p.data.tmps tm (by simpa using hvl) (fun t ht=>by rw [hsz];exact hall t ht) (fun j x q hx hq=>har j x q (by simpa using hx) hq) (fun t ht=>hgr _ _ (hgs' _ _ (hgs t ht)))
  have sim1:a1w P G B w0 I0 ⟨gs',D₂,nx₁,fun r o=>still o=true∧w₂.heap[r]?=some o,none⟩ nt ⟨a3P ps args tm,σ₁,nx₁,nt⟩ {tmps:=(p.data.params.zip vs).foldl (fun tmps (x:Tmp × Value)=>tmps.setIfInBounds x.1 x.2) p.data.tmps,defers:=[]} w₂:=by
   rw [hfold]
   exact ⟨rfl,Nat.le_refl _,I₂,ι₂,D₂,hc,hDn,⟨[],rfl,List.nodup_nil,fun r h=>by cases h⟩,q1.trans hsz,hgl,q2,hgr,fun b h=>.inl h,fun r o h=>h,fun _ h=>by cases h⟩
  refine wpIn_mono (ihx _ hkx 0 (some p.l) _ _ false (hE1 _) (fun h=>by cases h) _ _ _ _ hh sim1) fun e a₁ w₃ he=>?_
  cases e with
  | normal=>
    obtain ⟨s₁,hs₁,hnt1,hn1,I₃,ι₃,D₃,hx₃⟩:=he
    have hr₃:w₃.heap[p.l]?=some (.loop (p.at 0)):=(hx₃.kept p.l _ ⟨rfl,hrec⟩).2
    have hlt:p.l<w₃.heap.size:=(Array.getElem?_eq_some_iff.1 hr₃).1
    refine ⟨w₃.putObj p.l (.loop {p.at 0 with state:=.busy}),run_beginRound hr₃ rfl,?_⟩
    have ho:∀ (w:World) (o':Obj) (k:Nat),k≠p.l→(w.putObj p.l o').heap[k]?=w.heap[k]?:=fun w o' k h=>World.putObj_heap_other h
    have hmv:∀ (w:World) (o':Obj) (l:Loop),w.heap[p.l]?=some (.loop l)→∀ (r:Nat) (o:Obj),w.heap[r]?=some o→still o=false→(w.putObj p.l o').heap[r]?=some o:=fun w o' l hl r o hr hst=>by
     rw [ho _ _ _ fun e=>by subst e;rw [hl] at hr;cases hr;cases hst];exact hr
    have hbl:∀ (w:World) (o':Obj),Below B w (w.putObj p.l o'):=fun w o'=>⟨rfl,rfl,rfl,by simp,fun k hk=>ho w o' k (by omega)⟩
    obtain ⟨hc₃,hL₃⟩:=hx₃.core.move (ι':=ι₃) (D':=D₃) (hmv w₃ (.loop {p.at 0 with state:=.busy}) _ hr₃) (by simp) (hbl _ _) (fun _ _=>rfl) (fun _ h=>h)
    have sim2:a1w P G B w0 I0 ⟨gs',D₂,nx₁,fun r o=>(still o=true∧w₂.heap[r]?=some o∧r≠p.l)∨(r=p.l∧o= .loop {p.at 0 with state:=.busy}),none⟩ nt s₁ a₁ (w₃.putObj p.l (.loop {p.at 0 with state:=.busy})):=by
     refine ⟨hnt1,hn1,I₃,ι₃,D₃,hc₃,hx₃.names,?_,hx₃.size,hx₃.X9.mono hL₃.keeps,fun t ht=>(hx₃.tm t ht).a3f hL₃,fun v av hg=>(hx₃.ghost v av hg).a3f hL₃,hx₃.base,fun r o hk=>?_,fun _ h=>by cases h⟩
     ·obtain ⟨rs,h1,h2,h3⟩:=hx₃.dfs
      have hne:∀ r ∈ rs,r≠p.l:=fun r hr e=>by have:=(h3 r hr).2.2;rw [e,hr₃] at this;cases this
      refine ⟨rs,h1,h2,fun r hr=>⟨(h3 r hr).1,fun o hk=>?_,by rw [ho _ _ _ (hne r hr)];exact (h3 r hr).2.2⟩⟩
      rcases hk with ⟨k1,k2,k3⟩ | ⟨k1,k2⟩
      ·exact (h3 r hr).2.1 o ⟨k1,k2⟩
      ·exact hne r hr k1
     ·rcases hk with ⟨k1,k2,k3⟩ | ⟨k1,k2⟩
      ·exact ⟨k1,by rw [ho _ _ _ k3];exact (hx₃.kept r o ⟨k1,k2⟩).2⟩
      ·subst k1;subst k2;exact ⟨rfl,World.putObj_heap_same hlt⟩
    have fin:∀ (s₂:St) (a₂:Act) (w₄:World) (jump:Option Code) (pd:Nat),a1w P G B w0 I0 ⟨gs',D₂,nx₁,fun r o=>(still o=true∧w₂.heap[r]?=some o∧r≠p.l)∨(r=p.l∧o= .loop {p.at 0 with state:=.busy}),none⟩ nt s₂ a₂ w₄→
     p.at pd={p.at 0 with state:=if jump.isNone then .ready else .done,pending:=jump}→K (.pv (.bool jump.isNone)) s₂.σ s₂.nx pd→
     ∃ v w',(Instr.endRound p.l jump).run P w₄= .ok v w'∧b2P P G B w0 I0 p gs' D₂ w₂ nx₁ K (.returned v) w':=by
     intro s₂ a₂ w₄ jump pd ⟨_,hn2,I₄,ι₄,D₄,hx₄⟩ hp hK
     have hr₄:w₄.heap[p.l]?=some (.loop {p.at 0 with state:=.busy}):=(hx₄.kept p.l _ (.inr ⟨rfl,rfl⟩)).2
     have hlt:p.l<w₄.heap.size:=(Array.getElem?_eq_some_iff.1 hr₄).1
     refine ⟨_,_,run_endRound jump hr₄,?_⟩
     obtain ⟨hc₄,hL₄⟩:=hx₄.core.move (ι':=ι₄) (D':=D₄) (hmv w₄ (.loop {p.at 0 with state:=if jump.isNone then .ready else .done,pending:=jump}) _ hr₄) (by simp) (hbl _ _) (fun _ _=>rfl) (fun _ h=>h)
     exact ⟨_,_,_,pd,I₄,ι₄,D₄,hK,hc₄,hn2,fun b hb=>(hx₄.base b hb).elim .inl fun h=>.inr ⟨h,hx₄.names b hb⟩,.pv (.bool _),hx₄.X9.mono hL₄.keeps,fun x a hg=>(hx₄.ghost x a hg).a3f hL₄,
      fun r o hne hst hr=>by rw [ho _ _ _ hne];exact (hx₄.kept r o (.inl ⟨hst,hr,hne⟩)).2,by rw [hp];exact World.putObj_heap_same hlt⟩
    refine wpIn_mono (ihy _ hky 0 (some p.l) _ _ false (hE1 _) (fun h=>by cases h) _ _ _ _ hs₁ sim2) fun e a₂ w₄ he=>?_
    cases e with
    | normal=>obtain ⟨s₂,hs₂,hsim⟩:=he;exact fin s₂ a₂ w₄ none 0 hsim rfl hs₂
    | ret=>obtain ⟨s₂,hs₂,hsim⟩:=he;exact fin s₂ a₂ w₄ (some .ret) 1 hsim rfl hs₂
    | exit i=>obtain ⟨s₂,hs₂,hsim⟩:=he;exact fin s₂ a₂ w₄ (some (.exit i)) (i+2) hsim rfl hs₂
    | goto l=>exact he.elim
    | panic c=>exact he.elim
    | outgrown=>exact he.elim
  | exit i=>obtain ⟨s₁,hs₁,_⟩:=he;exact hs₁.elim
  | ret=>obtain ⟨s₁,hs₁,_⟩:=he;exact hs₁.elim
  | goto l=>exact he.elim
  | panic c=>exact he.elim
  | outgrown=>exact he.elim
 ·exact hh.elim
theorem b7O {f:RA} {ps:List Nat} {x y:RC} (ihx:Sound P G B w0 I0 nt x) (ihy:Sound P G B w0 I0 nt y) {g:Operand} {prm:Array Tmp} {as bd:Code}
 (hk:(k9 g f&&(prm.toList==ps&&(ps.all (fun t=>decide (t<nt)&&decide (t<1024))&&(a0T P nt as x&&a0T P nt bd y))))=true) {E:Env} {G5:Bool} (hE:a2u P G E ro B w0 I0 gh) {Q:Ex→St→Prop} {s:St} {a:Act} {w:World}
 (h:aw G (l9 P G) (.rng f ps x y) G5 E Q s) (hs:a1w P G B w0 I0 gh nt s a w):(Code.rangeFunc g prm as bd).wpIn (Fw ro) n P (a9A P G B w0 I0 gh nt Q) a w:=by
 simp only [Bool.and_eq_true,beq_iff_eq,List.all_eq_true,decide_eq_true_eq] at hk
 obtain ⟨hf,hps,hall,hkx,hky⟩:=hk
 obtain ⟨tm,σ,nx,nt'⟩:=s
 simp only [aw] at h
 split at h
 ·rename_i gi fa fb hca
  split at h
  ·rename_i it hit
   have hro:ro=none:=by
    cases ro with
    | none=>rfl
    | some l=>have:=hE.none l rfl gi;rw [hit] at this;cases this
   subst hro
   obtain ⟨hnt,hn0,I,ι,D,hx⟩:=hs
   simp only at hnt hn0
   subst hnt
   rw [m7] at h
   refine wpIn_rangeFunc fun fn _=>?_
   obtain ⟨xs,ys,hxf,hxl,hyl,hxr,hyr⟩:=a7k hca (hx.eval hf)
   let p:a3s:=⟨nx,w.heap.size+1,{state:=.ready,pending:=none,fn,tmps:=a.tmps,params:=prm,assign:=as,body:=bd,defers:=w.heap.size}⟩
   let w₁:=(w.alloc (.deferred (some []))).alloc (.loop p.data)
   have hw₁:∀ (r:Nat) (o:Obj),w.heap[r]?=some o→w₁.heap[r]?=some o:=fun r o hr=>by
    have hlt:=(Array.getElem?_eq_some_iff.1 hr).1
    rw [Below.heap_alloc _ _ _ (by simp;omega),Below.heap_alloc _ _ _ hlt];exact hr
   have hBw:B≤w.heap.size:=Nat.le_trans hx.core.hB hx.core.below.size
   have hbl₁:Below B w w₁:=((Below.refl B w).alloc hBw _).alloc (by simp;omega) _
   have hrec₁:w₁.heap[p.l]?=some (.loop (p.at 0)):=by
    have:=World.alloc_heap_new (w.alloc (.deferred (some []))) (.loop p.data)
    rw [World.size_alloc] at this
    exact this
   have hdef₁:w₁.heap[w.heap.size]?=some (.deferred (some [])):=by
    rw [Below.heap_alloc _ _ _ (by simp)]
    exact World.alloc_heap_new w (.deferred (some []))
   let ι':Nat→Option Nat:=fun b=>if b=nx then some p.l else ι b
   let D':Nat→Prop:=fun b=>D b∨b=nx
   have hDlt:∀ b,D b→b<nx:=hx.names
   obtain ⟨hc₁,hL₁⟩:=hx.core.move (w':=w₁) (ι':=ι') (D':=D') (fun r o hr _=>hw₁ r o hr) (by simp [w₁];omega) hbl₁ (fun b hb=>if_neg (by have:=hDlt b hb;omega)) (fun b h=>.inl h)
   let yv:Value:=.func (.yield p.l) #[] #[]
   have hyl':j1 w₁ I ι' σ D' yv (.yld nx):=.yld (.inr rfl) ⟨p.l,if_pos rfl,rfl⟩
   let gs:Value→AV→Prop:=fun v av=>gh.gs v av∨(∃ t,t<1024∧v=a.tmps.getD t undef∧av=tm.get e9 t)∨(v=yv∧av= .yld p.b)
   have hsza:a.tmps.size=nt':=hx.size
   obtain ⟨henter,hcalls⟩:=hE.itr gi it hit nx _ _ _ _ _ h B w0 I0 gs p w₁ I ι' D' (xs++#[yv]++ys) hc₁ (fun b hb=>by rcases hb with hb | rfl;have:=hDlt b hb;omega;omega) (hx.X9.mono hL₁.keeps)
    (by simp only [Array.size_append,List.length_append,hxl,hyl];rfl)
    (fun j z q hz hq=>by
     by_cases h1:j<fa.length
     ·rw [List.getElem?_append_left (by simp;omega),List.getElem?_append_left h1] at hq
      rw [Array.getElem?_append_left (by simp;omega),Array.getElem?_append_left (by omega)] at hz
      exact (hxr j z q hz hq).a3f hL₁
     ·by_cases h2:j=fa.length
      ·rw [List.getElem?_append_left (by simp;omega),List.getElem?_append_right (by omega)] at hq
       rw [Array.getElem?_append_left (by simp;omega),Array.getElem?_append_right (by omega)] at hz
       have e1:j - fa.length=0:=by omega
       have e2:j - xs.size=0:=by omega
       rw [e1] at hq
       rw [e2] at hz
       simp at hq hz
       subst hq;subst hz
       exact hyl'
      ·rw [List.getElem?_append_right (by simp;omega)] at hq
       rw [Array.getElem?_append_right (by simp;omega)] at hz
       simp only [List.length_append,List.length_cons,List.length_nil,Array.size_append] at hq hz
       have e:xs.size+#[yv].size=fa.length+(0+1):=by rw [hxl];rfl
       rw [e] at hz
       exact (hyr _ z q hz hq).a3f hL₁)
    (fun v av hv=>by
     rcases hv with hv | ⟨t,ht,rfl,rfl⟩ | ⟨rfl,rfl⟩
     ·exact (hx.ghost v av hv).a3f hL₁
     ·exact (hx.tm t ht).a3f hL₁
     ·exact hyl') rfl (.inr (.inr ⟨rfl,rfl⟩)) (by show B≤w.heap.size+1;omega) hrec₁
    (c4e ihx ihy hE.inl hkx hky hps hall hsza (fun t ht=>.inr (.inl ⟨t,ht,rfl,rfl⟩)) (by show B≤w.heap.size+1;omega))
   refine ⟨w.heap.size+1,[{target:=.collected w.heap.size,args:=#[]}],w₁,{target:=.fn (.func gi) ys,args:=xs++#[yv]},w₁,gi,xs++#[yv]++ys,w₁,run_enterLoop_outer fn a.tmps prm as bd,?_,fun _ _=>trivial,henter w₁,fun h=>by simp [Fence.wide] at h,?_⟩
   ·have e:Array.map a.eval #[Operand.const yv]=#[yv]:=by simp [Act.eval]
    simp only [resolve,hxf,Deferred.ofValue,Sem.run_pure]
    show Result.ok ({target:=Target.fn (Fn.func gi) ys,args:=xs++Array.map a.eval #[Operand.const yv]}:Deferred) w₁=_
    rw [e]
   ·have hc':CallsIn (Fw none) 0 P gi (xs++#[yv]++ys) w₁ _:=hcalls
    refine CallsIn.mono (CallsIn.more hc' (Nat.zero_le _)) fun e w₃ he=>?_
    cases e with
    | returned v=>
      obtain ⟨k,σ',nx',I',ι'',D'',hK,hc₂,hle,hD2,hglob,hgs,hstill,hrec⟩:=he
      have hbusy:(p.at k).state≠ .busy:=by
       match k with
       | 0=>intro e;cases e
       | 1=>intro e;cases e
       | i+2=>intro e;cases e
      have ho:∀ (o':Obj) (k:Nat),k≠p.l→(w₃.putObj p.l o').heap[k]?=w₃.heap[k]?:=fun o' k h=>World.putObj_heap_other h
      obtain ⟨hc₄,hL₄⟩:=hc₂.move (w':=w₃.putObj p.l (.loop {p.at k with state:=.exhausted})) (ι':=ι'') (D':=D'') (fun r o hr hst=>by rw [ho _ _ fun e=>by subst e;rw [hrec] at hr;cases hr;cases hst];exact hr) (by simp)
       ⟨rfl,rfl,rfl,by simp,fun k hk=>ho _ k (fun e=>by subst e;simp only [p] at hk;omega)⟩ (fun _ _=>rfl) (fun _ h=>h)
      have hold:∀ (r:Nat) (o:Obj),still o=true→w.heap[r]?=some o→(w₃.putObj p.l (.loop {p.at k with state:=.exhausted})).heap[r]?=some o:=fun r o hst hr=>by
       have hlt:=(Array.getElem?_eq_some_iff.1 hr).1
       have hne:r≠p.l:=by simp only [p];omega
       rw [ho _ _ hne]
       exact hstill r o hne hst (hw₁ r o hr)
      have hsim:a1w P G B w0 I0 gh nt' ⟨tm,σ',nx',nt'⟩ {a with defers:=[{target:=.collected w.heap.size,args:=#[]}]++a.defers} (w₃.putObj p.l (.loop {p.at k with state:=.exhausted})):=by
       refine ⟨rfl,by simp only;omega,I',ι'',D'',hc₄,fun b hb=>?_,?_,hsza,hglob.mono hL₄.keeps,fun t ht=>(hgs _ _ (.inr (.inl ⟨t,ht,rfl,rfl⟩))).a3f hL₄,fun v av hg=>(hgs _ _ (.inl hg)).a3f hL₄,fun b hb=>?_,fun r o hk=>⟨(hx.kept r o hk).1,hold r o (hx.kept r o hk).1 (hx.kept r o hk).2⟩,fun q hq=>?_⟩
       ·rcases hD2 b hb with (h | h) | h
        ·have:=hDlt b h;simp only;omega
        ·simp only;omega
        ·exact h.2
       ·obtain ⟨rs,h1,h2,h3⟩:=hx.dfs
        refine ⟨w.heap.size::rs,by simp [h1],?_,fun r hr=>?_⟩
        ·rw [List.nodup_cons]
         exact ⟨fun hm=>by have:=(Array.getElem?_eq_some_iff.1 (h3 _ hm).2.2).1;omega,h2⟩
        ·rcases List.mem_cons.1 hr with rfl | hr
         ·refine ⟨hBw,fun o hk=>?_,?_⟩
          ·have:=(Array.getElem?_eq_some_iff.1 (hx.kept _ o hk).2).1;omega
          ·have hne:w.heap.size≠p.l:=by simp only [p];omega
           rw [ho _ _ hne]
           exact hstill _ _ hne rfl hdef₁
         ·exact ⟨(h3 r hr).1,(h3 r hr).2.1,hold r _ rfl (h3 r hr).2.2⟩
       ·rcases hD2 b hb with (h | h) | h
        ·exact hx.base b h
        ·exact .inr (by omega)
        ·exact .inr (by omega)
       ·obtain ⟨h1,h2,k',h3,h4⟩:=hx.loop q hq
        exact ⟨h1,h2,k',h3,hold _ _ rfl h4⟩
      refine ⟨(p.at k).pending,_,run_endLoop hrec hbusy,?_⟩
      match k,hK,hsim with
      | 0,hK,hsim=>exact ⟨_,hK,hsim⟩
      | 1,hK,hsim=>exact wpIn_ret ⟨_,hK,hsim⟩
      | i+2,hK,hsim=>exact wpIn_exit ⟨_,hK,hsim⟩
    | panicked ch=>exact he.elim
    | outgrown=>exact he.elim
  ·exact h.elim
 ·exact h.elim
theorem b2R (hm:P.follows .mixedOrders=true):∀ (rc:RC),Sound P G B w0 I0 nt rc:=by
 intro rc
 induction rc with
 | skip=>
   intro code hk n ro gh E G5 hE hgh Q s a w h hs
   cases code <;>simp only [a0T] at hk <;>try cases hk
   ·exact wpIn_skip ⟨s,h,hs⟩
   ·exact wpIn_label ⟨s,h,hs⟩
 | b9 rs draw=>
   intro code hk n ro gh E G5 hE hgh Q s a w h hs
   cases code <;>simp only [a0T] at hk <;>try cases hk
   simp only [Bool.or_eq_true,Bool.and_eq_true,beq_iff_eq,Bool.not_eq_true'] at hk
   rcases hk with ⟨rfl,hk⟩ | ⟨rfl,rfl,hk⟩
   ·exact b7J hE hm hk h hs
   ·exact b5h hE hm hk h hs
 | seq x y ihx ihy=>
   intro code hk n ro gh E G5 hE hgh Q s a w h hs
   cases code <;>simp only [a0T] at hk <;>try cases hk
   simp only [Bool.and_eq_true] at hk
   refine wpIn_seq (wpIn_mono (ihx _ hk.1 n ro gh E G5 hE hgh _ s a w h hs) fun e a' w' he=>?_)
   cases e with
   | normal=>obtain ⟨s',h',hs'⟩:=he;exact ihy _ hk.2 n ro gh E G5 hE hgh Q s' a' w' h' hs'
   | exit id=>exact he
   | ret=>exact he
   | goto l=>exact he
   | panic c=>exact he
   | outgrown=>exact he
 | cond c x y ihx ihy=>
   intro code hk n ro gh E G5 hE hgh Q s a w h hs
   cases code <;>simp only [a0T] at hk <;>try cases hk
   simp only [Bool.and_eq_true] at hk
   obtain ⟨hc,hx,hy⟩:=hk
   simp only [aw,b4h] at h
   split at h
   ·rename_i b hb
    obtain ⟨I,ι,D,hxx⟩:=hs.2.2
    have hv:=hxx.eval hc
    rw [hb] at hv
    have hv:=a4g hv
    refine wpIn_cond hv ?_
    cases b
    ·exact ihy _ hy n ro gh E G5 hE hgh Q s a w h hs
    ·exact ihx _ hx n ro gh E G5 hE hgh Q s a w h hs
   ·rename_i hb
    obtain ⟨I,ι,D,hxx⟩:=hs.2.2
    have hv:=hxx.eval hc
    rw [hb] at hv
    generalize hX:a.eval _=X at hv
    cases hv with
    | U0 b=>
      refine wpIn_cond hX ?_
      cases b
      ·exact ihy _ hy n ro gh E G5 hE hgh Q s a w h.2 hs
      ·exact ihx _ hx n ro gh E G5 hE hgh Q s a w h.1 hs
   ·exact h.elim
 | block id b ih=>
   intro code hk n ro gh E G5 hE hgh Q s a w h hs
   cases code <;>simp only [a0T] at hk <;>try cases hk
   simp only [Bool.and_eq_true,beq_iff_eq] at hk
   obtain ⟨rfl,hk⟩:=hk
   rename_i id' c
   refine wpIn_block (wpIn_mono (ih _ hk n ro gh E G5 hE hgh _ s a w h hs) fun e a' w' he=>?_)
   cases e with
   | normal=>exact he
   | exit i=>
     obtain ⟨s',h',hs'⟩:=he
     simp only [Ex.inBlock] at h'
     simp only [Exit.inBlock]
     by_cases e:i=id'
     ·subst e;simp only [beq_self_eq_true] at h';rw [if_pos rfl];exact ⟨s',h',hs'⟩
     ·have hb:(i==id')=false:=by simpa using e
      rw [hb] at h';rw [if_neg e];exact ⟨s',h',hs'⟩
   | ret=>exact he
   | goto l=>exact he
   | panic c=>exact he
   | outgrown=>exact he
 | loop live b ih=>
   intro code hk n ro gh E G5 hE hgh Q s a w h hs
   cases code <;>simp only [a0T] at hk <;>try cases hk
   rename_i c
   refine a4x.wpIn ?_
   have:=h (fun s=>∀ a w,a1w P G B w0 I0 gh nt s a w→a4x (Fw ro) n P c (a9A P G B w0 I0 gh nt Q) a w) fun s h' a w hs=>by
    have hstep:∃ s',aw G (l9 P G) b G5 E (Ex.then (fun s=>∀ a w,a1w P G B w0 I0 gh nt s a w→a4x (Fw ro) n P c (a9A P G B w0 I0 gh nt Q) a w) Q) s'∧a1w P G B w0 I0 gh nt s' a w:=by
     cases hn:G5 with
     | true=>
       rw [hn] at h'
       simp only [a6b] at h'
       have this:=hgh hn
       subst this
       exact ⟨_,h',hs.1,Nat.zero_le _,hs.2.2.norm live⟩
     | false=>
       rw [hn] at h'
       exact ⟨_,h',hs⟩
    obtain ⟨s',h',hs'⟩:=hstep
    refine a4x.round (wpIn_mono (ih _ hk n ro gh E G5 hE hgh _ s' a w h' hs') fun e a' w' he=>?_)
    cases e with
    | normal=>obtain ⟨s',h',hs'⟩:=he;exact h' a' w' hs'
    | exit id=>exact he
    | ret=>exact he
    | goto l=>exact he
    | panic c=>exact he
    | outgrown=>exact he
   refine this (fun s s' hw hX a w hs=>hX a w (a1w.c4d (fun n l hm=>?_) hs hw)) a w hs
   cases G5 with
   | true=>cases hm
   | false=>
     cases hn0:E.n0 with
     | none=>simp only [hn0] at hm;cases hm
     | some k=>simp only [hn0] at hm;cases hm;exact hE.low _ hn0
 | rng f ps x y ihx ihy=>
   intro code hk n ro gh E G5 hE hgh Q s a w h hs
   cases code <;>simp only [a0T] at hk <;>try cases hk
   exact b7O ihx ihy hk hE h hs
 | exit id=>
   intro code hk n ro gh E G5 hE hgh Q s a w h hs
   cases code <;>simp only [a0T] at hk <;>try cases hk
   simp only [beq_iff_eq] at hk
   subst hk
   exact wpIn_exit ⟨s,h,hs⟩
 | scope b ih=>
   intro code hk n ro gh E G5 hE hgh Q s a w h hs
   cases code <;>simp only [a0T] at hk <;>try cases hk
   exact a6O (ih _ hk n ro gh E G5 hE hgh _ s a w h hs) fun l a w h=>h
 | ret=>
   intro code hk n ro gh E G5 hE hgh Q s a w h hs
   cases code <;>simp only [a0T] at hk <;>try cases hk
   exact wpIn_ret ⟨s,h,hs⟩
theorem a3Y {E:Env} {G5:Bool} (hE:a2u P G E ro B w0 I0 gh) (hm:P.follows .mixedOrders=true) (hgh:G5=true→gh=Gh.top) (rc:RC) (code:Code) (hk:a0T P nt code rc=true) (Q:Ex→St→Prop) (s:St) (a:Act) (w:World) (h:aw G (l9 P G) rc G5 E Q s) (hs:a1w P G B w0 I0 gh nt s a w):
 code.wpIn (Fw ro) n P (a9A P G B w0 I0 gh nt Q) a w:=b2R hm rc code hk n ro gh E G5 hE hgh Q s a w h hs
end
end Go.Ab
namespace Go.Ab
open Go.RowKit
section
variable {P:Program} {G:Gl} {B:Nat} {w0:World} {I0:y8} {gh:Gh} {N:Nat→Prop} {s:St} {a:Act} {w:World} {I:y8} {ι:Nat→Option Nat} {σ:b8} {D:Nat→Prop}
theorem Core.put {r:Nat} {x:Option (List Deferred)} {o':Obj} (hc:Core B w0 I0 w I ι σ D) (hr:w.heap[r]?=some (.deferred x)) (hB:B≤r):Core B w0 I0 (w.putObj r o') I ι σ D∧Later0 w I ι σ D (w.putObj r o') I ι σ D:=by
 have ho:∀ k,k≠r→(w.putObj r o').heap[k]?=w.heap[k]?:=fun k h=>World.putObj_heap_other h
 refine hc.move (fun k o hk hst=>?_) (by simp) ⟨rfl,rfl,rfl,by simp,fun k hk=>ho k (by omega)⟩ (fun _ _=>rfl) (fun _ h=>h)
 rw [ho k fun e=>by subst e;rw [hr] at hk;cases hk;cases hst]
 exact hk
theorem a0D.b9s {r:Nat} {x:Option (List Deferred)} {o':Obj} {ds:List Deferred} (h:a0D P G B w0 I0 gh N s a w I ι D) (hr:w.heap[r]?=some (.deferred x)) (hB:B≤r) (hd:Marks B gh.a1Q (w.putObj r o') ds) (hk:∀ o,¬ gh.a1Q r o):
 a0D P G B w0 I0 gh N s {tmps:=a.tmps,defers:=ds} (w.putObj r o') I ι D:=by
 obtain ⟨hc,hL⟩:=h.core.put (o':=o') hr hB
 refine ⟨hc,h.names,hd,h.size,h.X9.mono hL.keeps,fun t ht=>(h.tm t ht).a3f hL,fun v av hg=>(h.ghost v av hg).a3f hL,h.base,fun r' o hk'=>⟨(h.kept r' o hk').1,?_⟩,fun p hp=>?_⟩
 ·rw [World.putObj_heap_other (k:=r') (r:=r) fun e=>hk o (by rw [← e];exact hk')];exact (h.kept r' o hk').2
 ·obtain ⟨h1,h2,k,h3,h4⟩:=h.loop p hp
  exact ⟨h1,h2,k,h3,by rw [World.putObj_heap_other fun e=>by rw [e,hr] at h4;cases h4];exact h4⟩
theorem a0D.b5l {gs:Value→AV→Prop} {D0:Nat→Prop} {n0:Nat} {a1Q:Nat→Obj→Prop} {tm:T} {nx nt:Nat} {p:a3s} (h:a0D P G B w0 I0 ⟨gs,D0,n0,a1Q,none⟩ N ⟨tm,σ,nx,nt⟩ a w I ι D) (hnt:nt≤1023) (hB:B≤p.l) (hr:w.heap[p.l]?=some (.loop (p.at 0))):
 a0D P G B w0 I0 ⟨gs,D0,n0,a1Q,some p⟩ N ⟨tm.set e9 K9 (.mark 0),σ,nx,nt⟩ a w I ι D:=by
 refine ⟨h.core,h.names,h.dfs,h.size,h.X9,fun t ht=>?_,h.ghost,h.base,h.kept,fun q hq=>?_⟩
 ·simp only [I3]
  split
  ·exact .mark _ _
  ·exact h.tm t ht
 ·cases hq
  exact ⟨hnt,hB,0,by simp only [I3,if_true],hr⟩
end
end Go.Ab
namespace Go.Ab
open Go.RowKit
def X7 (P:Program):List ResultVar→List a7f→Bool
 | [],[]=>true
 | .tmp t::l,.tmp u::m=>t==u&&decide (t<1024)&&X7 P l m
 | .cell a t::l,.cell b agg n::m=>a==b&&decide (a<1024)&&s8 P t n&&Q5 P t agg&&X7 P l m
 | _,_=>false
def i5 (P:Program) (g:Nat) (c:x4):Bool:=match P.funcs[g]? with
 | some fn=>(match fn.body with
   | some code=>!(fn.name== "runtime.NumGoroutine")&&fn.ntmps==c.ntmps&&decide (c.nparams≤c.ntmps)&&decide (c.nparams≤1024)&&X7 P fn.results.toList c.res&&a0T P c.ntmps code c.body
   | none=>false)
 | none=>false
def z8:Nat→List AV→T→T
 | _,[],t=>t
 | i,p::l,t=>z8 (i+1) l (t.set e9 i p)
theorem V0 {α:Sort _}:∀ (l:List PV) (i:Nat) (t:T) (K:T→α),a7L i l t K=K (z8 i (l.map .pv) t)
 | [],i,t,K=>rfl
 | p::l,i,t,K=>by simp only [a7L,List.map_cons,z8,W8];exact V0 l _ _ K
theorem a2o {α:Sort _}:∀ (l:List AV) (i:Nat) (t:T) (K:T→α),a7h i l t K=K (z8 i l t)
 | [],i,t,K=>rfl
 | p::l,i,t,K=>by simp only [a7h,z8,H2,W8];exact a2o l _ _ K
theorem b2q:∀ (l:List AV) (i:Nat) (t:T) (n:Nat),n<1024→i+l.length≤1024→(z8 i l t).get e9 n=if h:i≤n∧n<i+l.length then l[n - i]'(by omega) else t.get e9 n
 | [],i,t,n,_,_=>by simp only [z8,List.length_nil];rw [dif_neg (by omega)]
 | p::l,i,t,n,hn,hi=>by
   simp only [z8]
   simp only [List.length_cons] at hi
   rw [b2q l (i+1) _ n hn (by omega)]
   by_cases h:i+1≤n∧n<i+1+l.length
   ·rw [dif_pos h,dif_pos (by simp only [List.length_cons];omega)]
    have e:n - i=(n - (i+1))+1:=by omega
    simp only [e,List.getElem_cons_succ]
   ·rw [dif_neg h,I3]
    have e1:n % 2 ^ e9=n:=Nat.mod_eq_of_lt hn
    have e2:i % 2 ^ e9=i:=Nat.mod_eq_of_lt (by show i<1024;omega)
    rw [e1,e2]
    by_cases h2:n=i
    ·subst h2
     rw [if_pos rfl,dif_pos (by simp only [List.length_cons];omega)]
     simp
    ·rw [if_neg h2,dif_neg (by simp only [List.length_cons];omega)]
section
variable {P:Program} {G:Gl} {B:Nat} {w0:World} {I0:y8} {w:World} {I:y8} {ι:Nat→Option Nat} {σ:b8} {D:Nat→Prop}
theorem b9e (hs:B7 B w I ι σ D) {x:Value} {a:AV} {ev:RA→AV} {y:RA} {t n nm:Nat} {agg:Bool} {e:m8} (hsz:s8 P t n=true) (hg:Q5 P t agg=true) (hev:ev y=a) (hx:j1 w I ι σ D x a)
 (h:step σ nm ev (.load agg n y)=some e):∃ ad v,x= .pointer (some ad)∧(loadVar t ad).run P w= .ok v w∧j1 w I ι σ D v e.v:=by
 simp only [step,hev] at h
 split at h
 ·rename_i b i j
  split at h
  ·rename_i o ho
   split at h
   ·rename_i row hrow
    split at h
    ·rename_i hjn
     split at h
     ·rename_i v hv
      cases h
      cases hx with
      | ptr hD hone hx=>
        obtain ⟨r,hr,rfl⟩:=hx o ho
        obtain ⟨r',c,T,fz,k1,k2,k3,k4,k5,k6⟩:=O5 hs ho hrow
        rw [hr] at k1;cases k1
        obtain ⟨v',hv',hrep⟩:=a3p (w:=w) (o:=i*o.es+j) (r:=r) hsz hg hv (by simp;omega) (fun k q hq=>by
         have hk:k<n:=by have:=(List.getElem?_eq_some_iff.1 hq).1;simp at this;omega
         rw [List.getElem?_take_of_lt hk,List.getElem?_drop] at hq
         obtain ⟨x',hx',hrep⟩:=k6 (j+k) q hq
         exact ⟨x',by rw [cell_of k2,Nat.add_assoc];exact hx',hrep.2⟩)
        exact ⟨_,v',rfl,hv',hrep⟩
     ·cases h
    ·cases h
   ·cases h
  ·cases h
 ·rename_i cs
  split at h
  ·rename_i hn
   split at h
   ·rename_i v hv
    cases h
    cases hx with
    | pv hx=>
      cases hx with
      | ref f ha hp hr=>
        rename_i a
        obtain ⟨ab,ao,as⟩:=a
        simp only at ha;subst ha
        obtain ⟨v',hv',hrep⟩:=a3p (w:=w) (I:=I) (ι:=ι) (σ:=σ) (D:=D) (o:=ao) (r:=ab) hsz hg hv (by simp;omega) (fun k q hq=>by
         have hk:k<n:=by have:=(List.getElem?_eq_some_iff.1 hq).1;simp at this;omega
         simp only [List.getElem?_map,Option.map_eq_some_iff] at hq
         obtain ⟨q',hq',rfl⟩:=hq
         rw [List.getElem?_take_of_lt hk] at hq'
         exact ⟨f k,(hp k (by omega)).1,.pv (hr k q' hq')⟩)
        exact ⟨_,v',rfl,hv',hrep⟩
   ·cases h
  ·cases h
 ·cases h
def b3G (tmps:Array Value):ResultVar→Sem Value
 | .tmp t=>pure (tmps.getD t undef)
 | .cell a t=>do loadVar t (← asAddr (tmps.getD a undef))
theorem b6C {gh:Gh} {N:Nat→Prop} {s:St} {a:Act} (hx:a0D P G B w0 I0 gh N s a w I ι D):∀ (l:List ResultVar) (m:List a7f) (vs:List AV),X7 P l m=true→V9 G s m=some vs→
 ∃ xs:List Value,(l.mapM (b3G a.tmps)).run P w= .ok xs w∧xs.length=vs.length∧∀ (j:Nat) (x:Value) (q:AV),xs[j]?=some x→vs[j]?=some q→j1 w I ι s.σ D x q
 | [],[],vs,_,h=>by simp only [V9] at h;cases h;exact ⟨[],by simp,rfl,fun j x q hx=>by simp at hx⟩
 | r::l,c::m,vs,hk,h=>by
   simp only [V9] at h
   split at h
   ·rename_i v hv
    split at h
    ·rename_i vs' hvs
     cases h
     have hk2:X7 P l m=true:=by
      cases r <;>cases c <;>simp only [X7,Bool.and_eq_true] at hk
      ·exact hk.2
      ·cases hk
      ·cases hk
      ·exact hk.2
     obtain ⟨xs,h1,h2,h3⟩:=b6C hx l m vs' hk2 hvs
     have one:∃ x,(b3G a.tmps r).run P w= .ok x w∧j1 w I ι s.σ D x v:=by
      cases r with
      | tmp t=>
        cases c with
        | tmp u=>
          simp only [X7,Bool.and_eq_true,beq_iff_eq,decide_eq_true_eq] at hk
          obtain ⟨⟨rfl,hlt⟩,_⟩:=hk
          simp only [b9w] at hv;cases hv
          exact ⟨_,rfl,hx.tm t hlt⟩
        | cell u g n=>simp [X7] at hk
      | cell t ty=>
        cases c with
        | tmp u=>simp [X7] at hk
        | cell u g n=>
          simp only [X7,Bool.and_eq_true,beq_iff_eq,decide_eq_true_eq] at hk
          obtain ⟨⟨⟨⟨rfl,hlt⟩,hsz⟩,hg⟩,_⟩:=hk
          simp only [b9w] at hv
          split at hv
          ·rename_i e he
           cases hv
           obtain ⟨ad,v,e1,e2,e3⟩:=b9e hx.core.x3 hsz hg rfl (hx.tm t hlt) he
           exact ⟨v,by simp [b3G,e1,asAddr,e2],e3⟩
          ·cases hv
     obtain ⟨x,g1,g2⟩:=one
     refine ⟨x::xs,?_,by simp [h2],fun j y q hy hq=>?_⟩
     ·rw [List.mapM_cons]
      simp [g1,h1]
     ·cases j with
      | zero=>simp at hy hq;subst hy;subst hq;exact g2
      | succ j=>simp at hy hq;exact h3 j y q hy hq
    ·cases h
   ·cases h
 | [],_::_,_,hk,_=>by simp [X7] at hk
 | _::_,[],_,hk,_=>by simp [X7] at hk
theorem b4P {gh:Gh} {N:Nat→Prop} {s:St} {a:Act} {fn:Func} {m:List a7f} {vs:List AV} (hx:a0D P G B w0 I0 gh N s a w I ι D) (hk:X7 P fn.results.toList m=true) (h:V9 G s m=some vs):
 ∃ v,(results fn a.tmps).run P w= .ok v w∧j1 w I ι s.σ D v (a4s vs):=by
 obtain ⟨xs,h1,h2,h3⟩:=b6C hx _ _ _ hk h
 have hr:(results fn a.tmps).run P w= .ok (if h:xs.toArray.size=1 then xs.toArray[0] else .tuple xs.toArray) w:=by
  have e:results fn a.tmps=(do let vs ← fn.results.mapM (b3G a.tmps);pure (if h:vs.size=1 then vs[0] else .tuple vs)):=by
   unfold results
   congr 1
  rw [e,Array.mapM_eq_mapM_toList]
  simp [h1]
 refine ⟨_,hr,?_⟩
 cases xs with
 | nil=>
   have:vs=[]:=List.eq_nil_of_length_eq_zero h2.symm
   subst this
   exact .s9 rfl fun j x q hx=>by simp at hx
 | cons x xs=>
   cases xs with
   | nil=>
     cases vs with
     | nil=>simp at h2
     | cons v vs=>
       have:vs=[]:=List.eq_nil_of_length_eq_zero (by simpa using h2.symm)
       subst this
       exact h3 0 x v rfl rfl
   | cons y ys=>
     cases vs with
     | nil=>simp at h2
     | cons v vs=>
       cases vs with
       | nil=>simp at h2
       | cons v' vs=>
         have:¬ (x::y::ys).toArray.size=1:=by simp
         rw [dif_neg this]
         exact .s9 (by simpa using h2) fun j z q hz hq=>h3 j z q (by simpa using hz) hq
end
theorem a1d {P:Program} {G:Gl} {B:Nat} {w0:World} {I0:y8} {gh:Gh} {N:Nat→Prop} {s:St} {I:y8} {ι:Nat→Option Nat} {D:Nat→Prop} {F:Fence} {n:Nat} {fn:Func} {m:List a7f} {vs:List AV} {R:Ending→World→Prop} {tmps:Array Value}
 (hk:X7 P fn.results.toList m=true) (h:V9 G s m=some vs):∀ (rs:List Nat) (ds:List Deferred) (w:World),ds.map (·.target)=rs.map Target.collected→rs.Nodup→(∀ r ∈ rs,B≤r∧(∀ o,¬ gh.a1Q r o)∧w.heap[r]?=some (.deferred (some [])))→
  a0D P G B w0 I0 gh N s {tmps:=tmps,defers:=ds} w I ι D→
  (∀ w' v,a0D P G B w0 I0 gh N s {tmps:=tmps,defers:=[]} w' I ι D→j1 w' I ι s.σ D v (a4s vs)→R (.returned v) w')→LeavesInM F n P fn tmps R ds .returning w
 | [],[],w,_,_,_,hx,hR=>by
   obtain ⟨v,hv,hrep⟩:=b4P hx hk h
   exact ⟨v,hv,hR w v hx hrep⟩
 | r::rs,d::ds,w,hm,hnd,hr,hx,hR=>by
   simp only [List.map_cons,List.cons.injEq] at hm
   obtain ⟨hm1,hm2⟩:=hm
   rw [List.nodup_cons] at hnd
   obtain ⟨hB,hkp,hh⟩:=hr r (by simp)
   have hr':∀ r' ∈ rs,B≤r'∧(∀ o,¬ gh.a1Q r' o)∧(w.putObj r (.deferred none)).heap[r']?=some (.deferred (some [])):=fun r' hr'=>by
    have hne:r'≠r:=fun e=>hnd.1 (e ▸ hr')
    exact ⟨(hr r' (by simp [hr'])).1,(hr r' (by simp [hr'])).2.1,(World.putObj_heap_other hne).trans (hr r' (by simp [hr'])).2.2⟩
   refine ⟨by simp,.inl ⟨r,w.putObj r (.deferred none),hm1,run_takeDeferred hh,?_⟩⟩
   exact a1d hk h rs ds _ hm2 hnd.2 hr' (hx.b9s hh hB ⟨rs,hm2,hnd.2,hr'⟩ hkp) hR
 | [],_::_,_,hm,_,_,_,_=>by simp at hm
 | _::_,[],_,hm,_,_,_,_=>by simp at hm
end Go.Ab
namespace Go.Ab
open Go.RowKit
theorem a2r {P:Program} {G:Gl} {B:Nat} {w0:World} {I0:y8} {w:World} {I:y8} {ι:Nat→Option Nat} {σ:b8} {D:Nat→Prop} {gs:Value→AV→Prop} {D0:Nat→Prop} {n0:Nat} {a1Q:Nat→Obj→Prop} {vs:Array Value} {as:List AV} {nt nx:Nat} (hc:Core B w0 I0 w I ι σ D) (hn:∀ b,D b→b<nx)
 (hg:Z6 P G w I) (hl:vs.size=as.length) (ha:∀ (j:Nat) (x:Value) (q:AV),vs[j]?=some x→as[j]?=some q→j1 w I ι σ D x q) (hgs:∀ v av,gs v av→j1 w I ι σ D v av) (hb:∀ b,D b→D0 b∨n0≤b) (h0:n0≤nx) (hkp:∀ r o,a1Q r o→still o=true∧w.heap[r]?=some o)
 (h1:as.length≤nt) (h2:as.length≤1024):
 a1w P G B w0 I0 ⟨gs,D0,n0,a1Q,none⟩ nt {tm:=z8 0 as .nil,σ:=σ,nx:=nx,nt:=nt} {tmps:=vs++Array.replicate (nt - vs.size) undef,defers:=[]} w:=by
 refine ⟨rfl,h0,I,ι,D,hc,hn,⟨[],rfl,List.nodup_nil,fun r h=>by cases h⟩,?_,hg,fun t ht=>?_,hgs,hb,hkp,fun _ h=>by cases h⟩
 ·simp only [Array.size_append,Array.size_replicate]
  omega
 ·show j1 w I _ _ _ _ ((z8 0 as .nil).get e9 t)
  rw [b2q as 0 .nil t ht (by omega)]
  by_cases h:0≤t∧t<0+as.length
  ·rw [dif_pos h]
   have hv:t<vs.size:=by omega
   refine ha t _ _ ?_ (List.getElem?_eq_getElem (by omega))
   simp [Array.getD,hv,Nat.lt_add_right]
  ·rw [dif_neg h,get_nil];exact .undef _
structure b2L (P:Program) (g:Nat) (c:x4) (fn:Func) (code:Code):Prop where
 func:P.funcs[g]?=some fn
 body:fn.body=some code
 name:¬ fn.name= "runtime.NumGoroutine"
 nt:fn.ntmps=c.ntmps
 np:c.nparams≤c.ntmps
 np':c.nparams≤1024
 res:X7 P fn.results.toList c.res=true
 code:a0T P c.ntmps code c.body=true
theorem a0U {P:Program} {g:Nat} {c:x4} (hk:i5 P g c=true):∃ fn code,b2L P g c fn code:=by
 unfold i5 at hk
 split at hk
 ·rename_i fn hf
  split at hk
  ·rename_i code hb
   simp only [Bool.and_eq_true,Bool.not_eq_true',beq_iff_eq,decide_eq_true_eq] at hk
   obtain ⟨⟨⟨⟨⟨hname,hnt⟩,hp1⟩,hp2⟩,hres⟩,hcode⟩:=hk
   exact ⟨fn,code,hf,hb,by simpa using hname,hnt,hp1,hp2,hres,hcode⟩
  ·cases hk
 ·cases hk
theorem b2L.enter {P:Program} {g:Nat} {c:x4} {fn:Func} {code:Code} (h:b2L P g c fn code) (vs:Array Value) (w₁:World):(callFunc g vs).run P w₁= .ok (.enter g vs) w₁:=by
 unfold callFunc
 simp [h.func,h.name,h.body]
def a0k (P:Program) (g:Nat) (c:x4):Bool:=i5 P g c&&(decide (c.ntmps≤1023)&&c.res.isEmpty)
theorem a1n {P:Program} {G:Gl} (hm:P.follows .mixedOrders=true) {ext:Nat→Option a3t} (hext:a5t P G fun g=>(ext g).map b0H) {tab A0:Nat→Option x4} (htab:∀ g c,tab g=some c→i5 P g c=true) (htabI:∀ g c,A0 g=some c→a0k P g c=true):
 ∀ d,a5t P G (L8 G (l9 P G) ext tab A0 d).inl∧c2q P G (L8 G (l9 P G) ext tab A0 d).itr
 | 0=>⟨fun g h hg=>by simp [L8] at hg,fun g h hg=>by simp [L8] at hg⟩
 | d+1=>by
   obtain ⟨ih1,ih2⟩:=a1n (G:=G) hm hext htab htabI d
   refine ⟨fun g h hg=>?_,fun g h hg=>?_⟩
   ·simp only [L8] at hg
    cases hx:ext g with
    | some r=>
      rw [hx] at hg
      exact hext g h (by simp only [hx,Option.map_some];exact hg)
    | none=>
    rw [hx] at hg
    simp only at hg
    split at hg
    ·rename_i c hc
     cases hg
     intro args σ nx K hrun B w0 I0 gs w I ι D vs hcore hD hglob hl ha hgs
     obtain ⟨fn,code,hf⟩:=a0U (htab g c hc)
     split at hrun
     ·rename_i hlen
      rw [beq_iff_eq] at hlen
      rw [a2o] at hrun
      refine ⟨hf.enter vs,callsIn_of_wp_marks hf.func hf.body trivial ?_⟩
      rw [hf.nt]
      have hsim:=a2r (gs:=gs) (D0:=D) (n0:=nx) (a1Q:=fun r o=>still o=true∧w.heap[r]?=some o) (nt:=c.ntmps) hcore hD hglob hl ha hgs (fun b h=>.inl h) (Nat.le_refl _) (fun r o h=>h) (by have:=hf.np;omega) (by have:=hf.np';omega)
      have hE:a2u P G ⟨(L8 G (l9 P G) ext tab A0 d).inl,(L8 G (l9 P G) ext tab A0 d).itr,none,some nx⟩ none B w0 I0 ⟨gs,D,nx,fun r o=>still o=true∧w.heap[r]?=some o,none⟩:=⟨ih1,ih2,(fun _ h=>by cases h),(fun b h e=>by cases e),fun n h=>by cases h;exact ⟨rfl,fun v av hg=>(hgs v av hg).low hD⟩⟩
      refine wpIn_mono (a3Y (ro:=none) hE hm (fun h=>by cases h) c.body code hf.code _ _ _ _ hrun hsim) fun e a w' he=>?_
      have fin:∀ s,(match s with | ⟨tm,σ,nx,nt⟩=>match V9 G ⟨tm,σ,nx,nt⟩ c.res with | some vs=>E4 (a4s vs) fun v=>K v σ nx | none=>False)→a1w P G B w0 I0 ⟨gs,D,nx,fun r o=>still o=true∧w.heap[r]?=some o,none⟩ c.ntmps s a w'→
       LeavesInM Fence.wide 0 P fn a.tmps (b6a P G B w0 I0 gs D w nx K) a.defers .returning w':=by
       intro s hs ⟨_,hle,I₁,ι₁,D₁,hx⟩
       obtain ⟨tm,σ',nx',nt⟩:=s
       simp only at hs
       split at hs
       ·rename_i vs' hvs
        rw [H2] at hs
        obtain ⟨rs,m1,m2,m3⟩:=hx.dfs
        refine a1d hf.res hvs rs a.defers w' m1 m2 m3 hx fun w₂ v hx hrep=>?_
        exact ⟨a4s vs',σ',nx',I₁,ι₁,D₁,hs,hx.core,hle,fun b hb=>(hx.base b hb).elim .inl fun h=>.inr ⟨h,hx.names b hb⟩,hrep,hx.X9,hx.ghost,fun r o h1 h2=>(hx.kept r o ⟨h1,h2⟩).2⟩
       ·exact hs.elim
      cases e with
      | normal=>obtain ⟨s,hq,hs⟩:=he;exact fin s hq hs
      | ret=>obtain ⟨s,hq,hs⟩:=he;exact fin s hq hs
      | exit i=>obtain ⟨s,hq,hs⟩:=he;exact hq.elim
      | goto l=>exact he.elim
      | panic ch=>exact he.elim
      | outgrown=>exact he.elim
     ·exact hrun.elim
    ·cases hg
   ·simp only [L8] at hg
    split at hg
    ·rename_i c hc
     cases hg
     intro b hh args σ nx K hrun B w0 I0 gs p w I ι D vs hcore hD hglob hl ha hgs hpb hgy hBl hrec hY
     have hci:=htabI g c hc
     simp only [a0k,Bool.and_eq_true,decide_eq_true_eq,List.isEmpty_iff] at hci
     obtain ⟨hcf,hnt,hres⟩:=hci
     obtain ⟨fn,code,hf⟩:=a0U hcf
     split at hrun
     ·rename_i hlen
      rw [beq_iff_eq] at hlen
      rw [a2o,W8] at hrun
      refine ⟨hf.enter vs,callsIn_of_wp_marks hf.func hf.body trivial ?_⟩
      rw [hf.nt]
      obtain ⟨s1,s2,I₁,ι₁,D₁,s3⟩:=a2r (gs:=gs) (D0:=D) (n0:=nx) (a1Q:=fun r o=>still o=true∧w.heap[r]?=some o∧r≠p.l) (nt:=c.ntmps) hcore hD hglob hl ha hgs (fun b h=>.inl h) (Nat.le_refl _) (fun r o h=>⟨h.1,h.2.1⟩) (by have:=hf.np;omega) (by have:=hf.np';omega)
      have hE:a2u P G ⟨(L8 G (l9 P G) ext tab A0 d).inl,(L8 G (l9 P G) ext tab A0 d).itr,some (b,hh),some nx⟩ none B w0 I0 ⟨gs,D,nx,fun r o=>still o=true∧w.heap[r]?=some o∧r≠p.l,some p⟩:=
       ⟨ih1,ih2,(fun _ h=>by cases h),(fun b' h' e=>by cases e;exact ⟨p,rfl,hpb,fun o hk=>hk.2.2 rfl,hgy,hY⟩),fun n h=>by cases h;exact ⟨rfl,fun v av hg=>(hgs v av hg).low hD⟩⟩
      refine wpIn_mono (a3Y (ro:=none) hE hm (fun h=>by cases h) c.body code hf.code _ _ _ _ hrun ⟨s1,s2,I₁,ι₁,D₁,s3.b5l hnt hBl hrec⟩) fun e a w' he=>?_
      have fin:∀ s,(match s with | ⟨tm,σ,nx,_⟩=>E4 (tm.get e9 K9) fun v=>K v σ nx)→a1w P G B w0 I0 ⟨gs,D,nx,fun r o=>still o=true∧w.heap[r]?=some o∧r≠p.l,some p⟩ c.ntmps s a w'→
       LeavesInM Fence.wide 0 P fn a.tmps (b6c P G B w0 I0 p gs D w nx K) a.defers .returning w':=by
       intro s hs ⟨_,hle,I₁,ι₁,D₁,hx⟩
       obtain ⟨tm,σ',nx',nt⟩:=s
       simp only at hs
       rw [H2] at hs
       obtain ⟨rs,m1,m2,m3⟩:=hx.dfs
       refine a1d (vs:=[]) hf.res (by rw [hres];rfl) rs a.defers w' m1 m2 m3 hx fun w₂ v hx hrep=>?_
       obtain ⟨_,_,k,hk1,hk2⟩:=hx.loop p rfl
       simp only at hk1
       rw [hk1] at hs
       exact ⟨k,σ',nx',I₁,ι₁,D₁,hs,hx.core,hle,fun b hb=>(hx.base b hb).elim .inl fun h=>.inr ⟨h,hx.names b hb⟩,hx.X9,hx.ghost,fun r o h0 h1 h2=>(hx.kept r o ⟨h1,h2,h0⟩).2,hk2⟩
      cases e with
      | normal=>obtain ⟨s,hq,hs⟩:=he;exact fin s hq hs
      | ret=>obtain ⟨s,hq,hs⟩:=he;exact fin s hq hs
      | exit i=>obtain ⟨s,hq,hs⟩:=he;exact hq.elim
      | goto l=>exact he.elim
      | panic ch=>exact he.elim
      | outgrown=>exact he.elim
     ·exact hrun.elim
    ·cases hg
def a3l (σ:b8) (b:Nat):Option (Nat × List (List PV) × List Nat):=
 match find σ b with
 | some (.arr es rows false)=>some (es,rows,[])
 | some (.box es rowsA false)=>(match b1Z (pub σ 8) rowsA with
   | some (rows,m)=>(match m.any (·==b) with | true=>none | false=>some (es,rows,m))
   | none=>none)
 | _=>none
def c6k (G:Gl) (rs:List a7f) (es:Nat) (rows:List (List PV)) (e:Ex) (st:St):Prop:=
 match e with
 | .exit _=>False
 | _=>∃ b m,V9 G st rs=some [.own b 0 rows.length]∧a3l st.σ b=some (es,rows,m)
theorem b6z {B:Nat} {w:World} {I:y8} {ι:Nat→Option Nat} {σ:b8} {D:Nat→Prop} {b es:Nat} {rows:List (List PV)} {m:List Nat} {v:Value} (hs:B7 B w I ι σ D) (ho:a3l σ b=some (es,rows,m)) (hrep:j1 w I ι σ D v (.own b 0 rows.length)) (nm:Nat):
 B7 B w (N9 I ι σ m) (fun x=>if x=nm then ι b else none) [(nm,some (.arr es rows false))] (Names nm)∧j1 w (N9 I ι σ m) (fun x=>if x=nm then ι b else none) [(nm,some (.arr es rows false))] (Names nm) v (.own nm 0 rows.length):=by
 obtain ⟨hs',hL'⟩:=hs.D8 m
 have main:∃ o,find σ b=some o∧find (C0 σ m) b=some o∧o.N5=false∧o.K6=false∧o.es=es∧o.len=rows.length∧
  ∀ (i:Nat) (rowA:List AV) (row:List PV),o.row? i=some rowA→rows[i]?=some row→rowA.length=row.length∧∀ (j:Nat) (x:Value) (a:AV) (p:PV),rowA[j]?=some a→row[j]?=some p→j1 w I ι σ D x a→B6 w (N9 I ι σ m) x p:=by
  unfold a3l at ho
  split at ho
  ·rename_i es' rows' hf
   cases ho
   refine ⟨_,hf,by simpa [C0] using hf,rfl,rfl,rfl,rfl,fun i rowA row h1 h2=>?_⟩
   simp only [g8.row?,h2] at h1
   cases h1
   refine ⟨by simp,fun j x a p ha hp hr=>?_⟩
   rw [List.getElem?_map,hp] at ha
   cases ha
   cases hr with | pv h=>exact h.mono a7t
  ·rename_i es' rowsA hf
   split at ho
   ·rename_i rows' m' hp
    split at ho
    ·cases ho
    ·rename_i hnm
     cases ho
     have hb:b ∉ m:=by
      intro hb
      rw [List.any_eq_false] at hnm
      exact hnm b hb (by simp)
     obtain ⟨e1,e2⟩:=b1n (b0s (M:=m) hs 8) _ _ _ hp fun _ h=>h
     refine ⟨_,hf,?_,rfl,rfl,rfl,e1,fun i rowA row h1 h2=>?_⟩
     ·rw [a0n,hf];simp [hb]
     ·exact (e2 i rowA row h1 h2).imp id fun h j x a p ha hp hr=>h j a p x ha hp hr
   ·cases ho
  ·cases ho
 obtain ⟨o,hf,hf',hsl,hmap,hes,hlen,hcell⟩:=main
 have key:∀ b' o',find [(nm,some (g8.arr es rows false))] b'=some o'→b'=nm∧o'= .arr es rows false:=by
  intro b' o' h
  simp only [find] at h
  split at h
  ·rename_i hb;rw [beq_iff_eq] at hb;cases h;exact ⟨hb.symm,rfl⟩
  ·cases h
 have hrows:B8 w I ι σ D b o:=by
  have:=hs.obj b o hf
  cases o with
  | map ents=>simp [g8.K6] at hmap
  | arr e r sl=>exact this
  | box e r sl=>exact this
 refine ⟨⟨hs'.bnd,fun b' o' h=>?_,fun b₁ b₂ o₁ o₂ r h₁ h₂ _ _=>(key b₁ o₁ h₁).1.trans (key b₂ o₂ h₂).1.symm,fun b' o' r h e=>?_,fun b' o' r k h e hi=>?_,fun b' o' h=>?_⟩,?_⟩
 ·obtain ⟨rfl,_⟩:=key b' o' h;exact ⟨Nat.le_refl _,by simp [j4]⟩
 ·obtain ⟨rfl,rfl⟩:=key b' o' h
  rw [if_pos rfl] at e
  exact hs.ge b o r hf e
 ·obtain ⟨rfl,rfl⟩:=key b' o' h
  rw [if_pos rfl] at e
  have:=(hs'.sep b o r k hf' e hi).1
  rw [hsl] at this;cases this
 ·obtain ⟨rfl,rfl⟩:=key b' o' h
  rcases hrows with ⟨h1,h2⟩ | ⟨r,cc,T,fz,h1,h2,h3,h4,h5⟩
  ·exact .inl ⟨by simp only [if_true];exact h1,by simp only [g8.len];omega⟩
  ·refine .inr ⟨r,cc,T,fz,by simp only [if_true];exact h1,h2,h3,by simp only [g8.len,g8.es];rw [← hes,← hlen];exact h4,fun i row hrow=>?_⟩
   simp only [g8.row?] at hrow
   split at hrow
   ·rename_i r0 hr0
    cases hrow
    have hi:i<o.len:=by rw [hlen];exact (List.getElem?_eq_some_iff.1 hr0).1
    obtain ⟨rowA,hrowA⟩:∃ rowA,o.row? i=some rowA:=by
     cases o with
     | map ents=>simp [g8.K6] at hmap
     | arr e r sl=>simp only [g8.len] at hi;exact ⟨r[i].map .pv,by simp only [g8.row?,List.getElem?_eq_getElem hi]⟩
     | box e r sl=>simp only [g8.len] at hi;exact ⟨_,by simp only [g8.row?];exact List.getElem?_eq_getElem hi⟩
    obtain ⟨l1,l2⟩:=hcell i rowA r0 hrowA hr0
    obtain ⟨k1,k2⟩:=h5 i rowA hrowA
    refine ⟨by simp only [List.length_map,g8.es];rw [← l1,k1,hes],fun j v' hv'=>?_⟩
    rw [List.getElem?_map,Option.map_eq_some_iff] at hv'
    obtain ⟨p,hp,rfl⟩:=hv'
    have hj:j<rowA.length:=by rw [l1];exact (List.getElem?_eq_some_iff.1 hp).1
    obtain ⟨x,hx1,hx2,hx3⟩:=k2 j _ (List.getElem?_eq_getElem hj)
    exact ⟨x,by simp only [g8.es];rw [← hes];exact hx1,hx2,.pv (l2 j x _ p (List.getElem?_eq_getElem hj) hp hx3)⟩
   ·cases hrow
 ·cases hrep with
  | own hD hone hv=>
    refine .own ⟨Nat.le_refl _,by simp [j4]⟩ hone fun o' ho'=>?_
    simp only [find,beq_self_eq_true] at ho'
    cases ho'
    obtain ⟨p,cap,k1,k2,k3,k4⟩:=hv _ hf
    refine ⟨p,cap,k1,by simp only [g8.len];omega,⟨k3.1,by have:=k3.2;simp only [g8.len];omega⟩,k4.imp id fun ⟨r,cc,T,fz,g1,g2,g3,g4⟩=>⟨r,cc,T,fz,by simp only [if_true];exact g1,by simp only [g8.es];rw [← hes];exact g2,g3,by simp only [g8.es];rw [← hes];exact g4⟩⟩
def fnO (G:Gl) (Ok:Nat→List PV→Own→PV→Prop) (ext:Nat→Option a3t) (tab A0:Nat→Option x4) (d:Nat) (f:x4) (args:List PV) (es:Nat) (rows:List (List PV)):Prop:=
 a7L 0 args .nil fun tm=>aw G Ok f.body true (L8 G Ok ext tab A0 d) (c6k G f.res es rows) {tm:=tm,σ:=[],nx:=0,nt:=f.ntmps}
theorem b2C {P:Program} {G:Gl} {g:Nat} {c:x4} {ps:List PV} {r:PV} (hm:P.follows .mixedOrders=true) (hk:i5 P g c=true) {ext:Nat→Option a3t} (hext:a5t P G fun g=>(ext g).map b0H) {tab A0:Nat→Option x4} (htab:∀ g c,tab g=some c→i5 P g c=true) (htabI:∀ g c,A0 g=some c→a0k P g c=true) {d:Nat}
 (hl:ps.length=c.nparams) (h:fnW G (l9 P G) ext tab A0 d c ps r):l9 P G g ps [] r:=by
 obtain ⟨fn,code,hf⟩:=a0U hk
 intro w I vs hbnd hglob hargs
 refine ⟨hf.enter vs,callsIn_of_wp_marks hf.func hf.body trivial ?_⟩
 simp only [fnW,V0] at h
 rw [hf.nt]
 have hcore:Core w.heap.size w I w I (fun _=>none) [] (fun _=>False):=⟨⟨hbnd,fun b o h=>by simp [find] at h,fun b b' o o' r h=>by simp [find] at h,fun b o r h=>by simp [find] at h,fun b o r k h=>by simp [find] at h,fun b o h=>by simp [find] at h⟩,
  Below.refl _ _,Nat.le_refl _,fun _ _ h=>h,fun _ _ _ h=>h⟩
 have hsim:=a2r (gs:=fun _ _=>False) (D0:=fun _=>True) (n0:=0) (a1Q:=fun _ _=>False) (nx:=0) (as:=ps.map .pv) (vs:=vs) (nt:=c.ntmps) hcore (fun b h=>h.elim) hglob (by rw [List.length_map];exact hargs.1)
  (fun j x q hx hq=>by
   rw [List.getElem?_map,Option.map_eq_some_iff] at hq
   obtain ⟨p,hp,rfl⟩:=hq
   exact .pv (hargs.2 j x p hx hp)) (fun _ _ h=>h.elim) (fun b h=>h.elim) (Nat.le_refl _) (fun _ _ h=>h.elim) (by rw [List.length_map];have:=hf.np;omega) (by rw [List.length_map];have:=hf.np';omega)
 have hE:a2u P G (L8 G (l9 P G) ext tab A0 d) none w.heap.size w I Gh.top:=⟨(a1n hm hext htab htabI d).1,(a1n hm hext htab htabI d).2,(fun _ h=>by cases h),(fun b h e=>by cases d <;>simp [L8] at e),fun n h=>by cases d <;>simp [L8] at h⟩
 refine wpIn_mono (a3Y (ro:=none) hE hm (fun _=>rfl) c.body code hf.code _ _ _ _ h hsim) fun e a w' he=>?_
 have fin:∀ s,(match V9 G s c.res with | some vs=>(match pub s.σ 8 (a4s vs) with | some (p,_)=>p=r | none=>False) | none=>False)→a1w P G w.heap.size w I .top c.ntmps s a w'→
  LeavesInM Fence.wide 0 P fn a.tmps (a3V w I [] r) a.defers .returning w':=by
  intro s hs ⟨_,_,I₁,ι,D,hx⟩
  split at hs
  ·rename_i vs' hvs
   split at hs
   ·rename_i p m hp
    subst hs
    obtain ⟨rs,m1,m2,m3⟩:=hx.dfs
    refine a1d (gh:=Gh.top) hf.res hvs rs a.defers w' m1 m2 m3 hx fun w₂ v hx hrep=>?_
    obtain ⟨hs',hL⟩:=B7.D8 hx.core.x3 m
    have hpv:=b0s (M:=m) hx.core.x3 8 _ _ _ _ hp (fun b h=>h) hrep
    refine ⟨N9 I₁ ι s.σ m,hx.core.below,fun a k h=>.inl (hx.core.ext a k h),fun a k hlt h=>?_,fun nm=>⟨fun _=>none,?_,.pv hpv⟩⟩
    ·rcases h with h | ⟨b,o,_,hf,_,hr,_⟩
     ·exact hx.core.old a k hlt h
     ·have:=hx.core.x3.ge b o a hf hr;omega
    ·exact ⟨hs'.bnd,fun b o h=>by simp [imp,j7,find] at h,fun b b' o o' r h=>by simp [imp,j7,find] at h,fun b o r h=>by simp [imp,j7,find] at h,fun b o r k h=>by simp [imp,j7,find] at h,fun b o h=>by simp [imp,j7,find] at h⟩
   ·exact hs.elim
  ·exact hs.elim
 cases e with
 | normal=>obtain ⟨s,hq,hs⟩:=he;exact fin s hq hs
 | ret=>obtain ⟨s,hq,hs⟩:=he;exact fin s hq hs
 | exit i=>obtain ⟨s,hq,hs⟩:=he;exact hq.elim
 | goto l=>exact he.elim
 | panic ch=>exact he.elim
 | outgrown=>exact he.elim
theorem b2B {P:Program} {G:Gl} {g:Nat} {c:x4} {ps:List PV} {es:Nat} {rows:List (List PV)} (hm:P.follows .mixedOrders=true) (hk:i5 P g c=true) {ext:Nat→Option a3t} (hext:a5t P G fun g=>(ext g).map b0H) {tab A0:Nat→Option x4} (htab:∀ g c,tab g=some c→i5 P g c=true) (htabI:∀ g c,A0 g=some c→a0k P g c=true) {d:Nat}
 (hl:ps.length=c.nparams) (h:fnO G (l9 P G) ext tab A0 d c ps es rows):l9 P G g ps [(0,0)] (.sl es rows):=by
 obtain ⟨fn,code,hf'⟩:=a0U hk
 intro w I vs hbnd hglob hargs
 refine ⟨hf'.enter vs,callsIn_of_wp_marks hf'.func hf'.body trivial ?_⟩
 simp only [fnO,V0] at h
 rw [hf'.nt]
 have hcore:Core w.heap.size w I w I (fun _=>none) [] (fun _=>False):=⟨⟨hbnd,fun b o h=>by simp [find] at h,fun b b' o o' r h=>by simp [find] at h,fun b o r h=>by simp [find] at h,fun b o r k h=>by simp [find] at h,fun b o h=>by simp [find] at h⟩,
  Below.refl _ _,Nat.le_refl _,fun _ _ h=>h,fun _ _ _ h=>h⟩
 have hsim:=a2r (gs:=fun _ _=>False) (D0:=fun _=>True) (n0:=0) (a1Q:=fun _ _=>False) (nx:=0) (as:=ps.map .pv) (vs:=vs) (nt:=c.ntmps) hcore (fun b h=>h.elim) hglob (by rw [List.length_map];exact hargs.1)
  (fun j x q hx hq=>by
   rw [List.getElem?_map,Option.map_eq_some_iff] at hq
   obtain ⟨p,hp,rfl⟩:=hq
   exact .pv (hargs.2 j x p hx hp)) (fun _ _ h=>h.elim) (fun b h=>h.elim) (Nat.le_refl _) (fun _ _ h=>h.elim) (by rw [List.length_map];have:=hf'.np;omega) (by rw [List.length_map];have:=hf'.np';omega)
 have hE:a2u P G (L8 G (l9 P G) ext tab A0 d) none w.heap.size w I Gh.top:=⟨(a1n hm hext htab htabI d).1,(a1n hm hext htab htabI d).2,(fun _ h=>by cases h),(fun b h e=>by cases d <;>simp [L8] at e),fun n h=>by cases d <;>simp [L8] at h⟩
 refine wpIn_mono (a3Y (ro:=none) hE hm (fun _=>rfl) c.body code hf'.code _ _ _ _ h hsim) fun e a w' he=>?_
 have fin:∀ s,(∃ b m,V9 G s c.res=some [.own b 0 rows.length]∧a3l s.σ b=some (es,rows,m))→a1w P G w.heap.size w I .top c.ntmps s a w'→
  LeavesInM Fence.wide 0 P fn a.tmps (a3V w I [(0,0)] (.sl es rows)) a.defers .returning w':=by
  intro s ⟨b,m,hvs,hout⟩ ⟨_,_,I₁,ι,D,hx⟩
  obtain ⟨rs,m1,m2,m3⟩:=hx.dfs
  refine a1d (gh:=Gh.top) hf'.res hvs rs a.defers w' m1 m2 m3 hx fun w₂ v hx hrep=>?_
  refine ⟨N9 I₁ ι s.σ m,hx.core.below,fun a k h=>.inl (hx.core.ext a k h),fun a k hlt h=>?_,fun nm=>⟨_,b6z hx.core.x3 hout hrep nm⟩⟩
  rcases h with h | ⟨b,o,_,hf,_,hr,_⟩
  ·exact hx.core.old a k hlt h
  ·have:=hx.core.x3.ge b o a hf hr;omega
 cases e with
 | normal=>obtain ⟨s,hq,hs⟩:=he;exact fin s hq hs
 | ret=>obtain ⟨s,hq,hs⟩:=he;exact fin s hq hs
 | exit i=>obtain ⟨s,hq,hs⟩:=he;exact hq.elim
 | goto l=>exact he.elim
 | panic ch=>exact he.elim
 | outgrown=>exact he.elim
def c4L (G:Gl) (rs:List a7f) (es:Nat) (rows:List (List PV)) (kd:IntKind) (nn:Int) (e:Ex) (st:St):Prop:=
 match e with
 | .exit _=>False
 | _=>∃ b m,V9 G st rs=some [.own b 0 rows.length,.pv (.int kd nn)]∧a3l st.σ b=some (es,rows,m)
def c3k (G:Gl) (Ok:Nat→List PV→Own→PV→Prop) (ext:Nat→Option a3t) (tab A0:Nat→Option x4) (d:Nat) (f:x4) (args:List PV) (es:Nat) (rows:List (List PV)) (kd:IntKind) (nn:Int):Prop:=
 a7L 0 args .nil fun tm=>aw G Ok f.body true (L8 G Ok ext tab A0 d) (c4L G f.res es rows kd nn) {tm:=tm,σ:=[],nx:=0,nt:=f.ntmps}
theorem b5x {P:Program} {G:Gl} {g:Nat} {c:x4} {ps:List PV} {es:Nat} {rows:List (List PV)} {kd:IntKind} {nn:Int} (hm:P.follows .mixedOrders=true) (hk:i5 P g c=true) {ext:Nat→Option a3t} (hext:a5t P G fun g=>(ext g).map b0H) {tab A0:Nat→Option x4} (htab:∀ g c,tab g=some c→i5 P g c=true) (htabI:∀ g c,A0 g=some c→a0k P g c=true) {d:Nat}
 (hl:ps.length=c.nparams) (h:c3k G (l9 P G) ext tab A0 d c ps es rows kd nn):l9 P G g ps [(0,0)] (.s9 [.sl es rows,.int kd nn]):=by
 obtain ⟨fn,code,hf'⟩:=a0U hk
 intro w I vs hbnd hglob hargs
 refine ⟨hf'.enter vs,callsIn_of_wp_marks hf'.func hf'.body trivial ?_⟩
 simp only [c3k,V0] at h
 rw [hf'.nt]
 have hcore:Core w.heap.size w I w I (fun _=>none) [] (fun _=>False):=⟨⟨hbnd,fun b o h=>by simp [find] at h,fun b b' o o' r h=>by simp [find] at h,fun b o r h=>by simp [find] at h,fun b o r k h=>by simp [find] at h,fun b o h=>by simp [find] at h⟩,
  Below.refl _ _,Nat.le_refl _,fun _ _ h=>h,fun _ _ _ h=>h⟩
 have hsim:=a2r (gs:=fun _ _=>False) (D0:=fun _=>True) (n0:=0) (a1Q:=fun _ _=>False) (nx:=0) (as:=ps.map .pv) (vs:=vs) (nt:=c.ntmps) hcore (fun b h=>h.elim) hglob (by rw [List.length_map];exact hargs.1)
  (fun j x q hx hq=>by
   rw [List.getElem?_map,Option.map_eq_some_iff] at hq
   obtain ⟨p,hp,rfl⟩:=hq
   exact .pv (hargs.2 j x p hx hp)) (fun _ _ h=>h.elim) (fun b h=>h.elim) (Nat.le_refl _) (fun _ _ h=>h.elim) (by rw [List.length_map];have:=hf'.np;omega) (by rw [List.length_map];have:=hf'.np';omega)
 have hE:a2u P G (L8 G (l9 P G) ext tab A0 d) none w.heap.size w I Gh.top:=⟨(a1n hm hext htab htabI d).1,(a1n hm hext htab htabI d).2,(fun _ h=>by cases h),(fun b h e=>by cases d <;>simp [L8] at e),fun n h=>by cases d <;>simp [L8] at h⟩
 refine wpIn_mono (a3Y (ro:=none) hE hm (fun _=>rfl) c.body code hf'.code _ _ _ _ h hsim) fun e a w' he=>?_
 have fin:∀ s,(∃ b m,V9 G s c.res=some [.own b 0 rows.length,.pv (.int kd nn)]∧a3l s.σ b=some (es,rows,m))→a1w P G w.heap.size w I .top c.ntmps s a w'→
  LeavesInM Fence.wide 0 P fn a.tmps (a3V w I [(0,0)] (.s9 [.sl es rows,.int kd nn])) a.defers .returning w':=by
  intro s ⟨b,m,hvs,hout⟩ ⟨_,_,I₁,ι,D,hx⟩
  obtain ⟨rs,m1,m2,m3⟩:=hx.dfs
  refine a1d (gh:=Gh.top) hf'.res hvs rs a.defers w' m1 m2 m3 hx fun w₂ v hx hrep=>?_
  refine ⟨N9 I₁ ι s.σ m,hx.core.below,fun a k h=>.inl (hx.core.ext a k h),fun a k hlt h=>?_,fun nm=>?_⟩
  ·rcases h with h | ⟨b,o,_,hf,_,hr,_⟩
   ·exact hx.core.old a k hlt h
   ·have:=hx.core.x3.ge b o a hf hr;omega
  ·cases hrep with
   | s9 hl hh=>
     rename_i cs
     have h0:∃ x,cs[0]?=some x:=⟨_,Array.getElem?_eq_getElem (by simp at hl;omega)⟩
     obtain ⟨x0,hx0⟩:=h0
     obtain ⟨o1,o2⟩:=b6z hx.core.x3 hout (hh 0 x0 _ hx0 rfl) nm
     refine ⟨_,o1,.s9 (by simpa using hl) fun j x q hxj hq=>?_⟩
     match j,hq with
     | 0,hq=>cases hq;rw [hx0] at hxj;cases hxj;exact o2
     | 1,hq=>cases hq;have:=a4W (hh 1 x _ hxj rfl);subst this;exact .pv (.int _ _)
 cases e with
 | normal=>obtain ⟨s,hq,hs⟩:=he;exact fin s hq hs
 | ret=>obtain ⟨s,hq,hs⟩:=he;exact fin s hq hs
 | exit i=>obtain ⟨s,hq,hs⟩:=he;exact hq.elim
 | goto l=>exact he.elim
 | panic ch=>exact he.elim
 | outgrown=>exact he.elim
end Go.Ab
namespace Go.Ab
open Go.RowKit Go.ChangeShapes Go.WideShapes
theorem b1Y {H:Type} {enc:TypeId × Value→H} {P:Program} {f:Func} {s:ChangeSpec} {apart fresh handsOn again:Bool} {W W':World} {args:Array Value} {v:Value} {ds gs:List (DataW H)} {before pa pv:List MemPlace}
 (hW:DataW.Whole enc P f.params.toList s.vars apart W args.toList ds gs before)
 (hres:∀ (b:Nat) (sp:Nat→Bool) (hd:Bool),DataW.TrodAll enc P W' b sp hd f.resultTypes.toList (v.resultList f.resultTypes.size) (s.fn H (ds++gs)).results [])
 (hargs:∀ sp:Nat→Bool,(∀ p ∈ before,sp p.block=true)→DataW.TrodAll enc P W' 0 sp true f.params.toList args.toList (s.fn H (ds++gs)).args pa)
 (hvars:∀ sp:Nat→Bool,(∀ p ∈ before,sp p.block=true)→DataW.TrodVars enc P W' sp s.vars (s.fn H (ds++gs)).vars pv)
 (hps:before=pa++pv) (hb:Below W.heap.size W W')
 (hok:∀ (j:Nat) (t:TypeId) (r:Value),f.resultTypes[j]?=some t→(v.resultList f.resultTypes.size)[j]?=some r→Value.okWide P W' .any 0 t r):
 s.post enc P f apart fresh handsOn again W args v W':=by
 have hold:∀ p ∈ before,(fun b=>decide (b<W.heap.size)) p.block=true:=fun p hp=>by simpa using hW.lt p hp
 have hlt:=hW.lt
 refine ⟨ds,gs,before,[],pa,pv,hW,hres _ _ _,hargs _ hold,hvars _ hold,World.keptBut_mono (fun p hp=>⟨hp,?_⟩) (hb.frame (·∈ before)),fun _=>?_⟩
 ·rw [hps,List.mem_append] at hp
  exact Or.inr hp
 ·obtain ⟨_,_,_,_,_,hz,hn⟩:=hW
  refine ⟨hok,_,_,([]++pa)++pv,⟨[]++pa,pv,trodAll_append (hargs _ (fun _ _=>rfl)) (hres _ _ _),hvars _ (fun _ _=>rfl),rfl,?_,?_⟩,?_⟩
  ·intro b off hp
   have hp':MemPlace.cell b off ∈ before:=by rw [hps];simpa using hp
   have hl:b<W.heap.size:=hlt _ hp'
   rw [hb.frozen hl]
   exact hz b off hp'
  ·intro ha
   have:=hn ha
   rw [hps] at this
   simpa using this
  ·intro p hp _
   rw [hps]
   simpa using hp
end Go.Ab
namespace Go.Ab
def b8Y:IntKind→Nat
 | .i8=>0 | .i16=>1 | .i32=>2 | .i64=>3 | .u8=>4 | .u16=>5 | .u32=>6 | .u64=>7
def c3p (k k':IntKind):Bool:=Nat.beq (b8Y k) (b8Y k')
theorem b6q (k k':IntKind):c3p k k'=decide (k=k'):=by cases k <;>cases k' <;>rfl
def b2K (k:IntKind) (n:Int):Int:=match k with
 | .i64=>(match n with
   | .ofNat m=>(match Nat.blt m 9223372036854775808 with | true=>.ofNat m | false=>IntKind.wrap .i64 (.ofNat m))
   | n=>IntKind.wrap .i64 n)
 | k=>IntKind.wrap k n
theorem c0n (k:IntKind) (n:Int):b2K k n=k.wrap n:=by
 cases k <;>try rfl
 cases n with
 | negSucc m=>rfl
 | ofNat m=>
   simp only [b2K]
   cases h:Nat.blt m 9223372036854775808 with
   | false=>rfl
   | true=>
     have hm:m<9223372036854775808:=a7N.1 h
     rw [IntKind.wrap_i64]
     simp only [Int.ofNat_eq_natCast]
     omega
def ltE:Int→Int→Bool
 | .ofNat m,.ofNat n=>Nat.blt m n
 | .ofNat _,.negSucc _=>false
 | .negSucc _,.ofNat _=>true
 | .negSucc m,.negSucc n=>Nat.blt n m
theorem c0R (a b:Int):ltE a b=true↔a<b:=by
 cases a <;>cases b <;>simp only [ltE,a7N] <;>first | omega | skip
 all_goals (simp;try omega)
theorem c3v (a b:Int):ltE a b=decide (a<b):=by
 rw [Bool.eq_iff_iff,c0R];simp
def eqE:Int→Int→Bool
 | .ofNat m,.ofNat n=>Nat.beq m n
 | .negSucc m,.negSucc n=>Nat.beq m n
 | _,_=>false
theorem b8P (a b:Int):eqE a b=(a==b):=by
 rw [Bool.eq_iff_iff]
 cases a <;>cases b <;>simp [eqE,Nat.beq_eq] <;>omega
def c2D (op:BinOp) (k:IntKind) (a b:Int):Option AV:=match op with
 | .add=>some (.pv (.int k (b2K k (a+b))))
 | .sub=>some (.pv (.int k (b2K k (a - b))))
 | .mul=>some (.pv (.int k (b2K k (a*b))))
 | .quo=>if b=0 then none else some (.pv (.int k (b2K k (a.tdiv b))))
 | .rem=>if b=0 then none else some (.pv (.int k (a.tmod b)))
 | .eql=>some (.pv (.bool (eqE a b)))
 | .neq=>some (.pv (.bool (!(eqE a b))))
 | .lss=>some (.pv (.bool (ltE a b)))
 | .leq=>some (.pv (.bool (!(ltE b a))))
 | .gtr=>some (.pv (.bool (ltE b a)))
 | .geq=>some (.pv (.bool (!(ltE a b))))
 | _=>none
def b5g (op:BinOp) (x y:AV):Option AV:=match x with
 | .pv p=>(match p with
   | .int k a=>(match y with
     | .pv q=>(match q with
       | .int k' b=>(match c3p k k' with | true=>c2D op k a b | false=>none)
       | _=>none)
     | _=>none)
   | _=>binop op x y)
 | _=>binop op x y
theorem b6X (op:BinOp) (x y:AV):b5g op x y=binop op x y:=by
 cases x with
 | pv p=>
   cases p with
   | int k a=>
     cases y with
     | pv q=>
       cases q with
       | int k' b=>
         simp only [b5g,binop,b6q]
         by_cases h:k=k'
         ·simp only [h,decide_true,if_true]
          cases op <;>simp only [c2D,c0n,b8P,c3v] <;>first | rfl | skip
          ·congr 3;rw [Bool.eq_iff_iff];simp
          ·congr 3;rw [Bool.eq_iff_iff];simp
         ·simp only [h,decide_false,if_false]
       | _=>cases op <;>rfl
     | _=>cases op <;>rfl
   | _=>rfl
 | _=>rfl
def b3H:Nat→AV→AV→Option Bool
 | 0,.pv (.int k a),.pv (.int k' b)=>(match c3p k k' with | true=>some (eqE a b) | false=>none)
 | k,a,b=>a4u k a b
theorem b5G (n:Nat) (a b:AV):b3H n a b=a4u n a b:=by
 unfold b3H
 split
 ·rename_i k a k' b
  simp only [a4u,b6q,b8P]
  by_cases h:k=k' <;>simp [h]
 ·rfl
end Go.Ab
namespace Go.Ab
def a7Q:List Nat→List AV→List AV→Option Bool
 | [],[],[]=>some true
 | k::ks,a::l,b::m=>match b3H k a b with
   | some x=>match a7Q ks l m with | some y=>some (x&&y) | none=>none
   | none=>none
 | _,_,_=>none
theorem a9q:∀ (ks:List Nat) (l m:List AV),a7Q ks l m=a1m ks l m
 | [],[],[]=>rfl
 | k::ks,a::l,b::m=>by simp only [a7Q,a1m,b5G,a9q ks l m];rfl
 | [],[],_::_=>rfl
 | [],_::_,_=>rfl
 | _::_,[],_=>rfl
 | _::_,_::_,[]=>rfl
def c4P (_σ:b8) (_nm:Nat) (ev:RA→AV) (x:RA):Option m8:=
 m8.of (ev x)
def c1s (_σ:b8) (_nm:Nat) (ev:RA→AV) (c:RA) (a:RA) (b:RA):Option m8:=
 match ev c with
  | .pv (.bool x)=>(match x with | true=>m8.of (ev a) | false=>m8.of (ev b))
  | _=>none
def b9P (_σ:b8) (nm:Nat) (_ev:RA→AV) (zero:List AV):Option m8:=
 some {v:=.ptr nm 0 0,up:=[(nm,some (.box zero.length [zero] false))]}
def c3I (_σ:b8) (nm:Nat) (ev:RA→AV) (n:Nat) (x:RA):Option m8:=
 if (ev x).cells.length=n∧y3 (ev x).cells=true then some {v:=.ptr nm 0 0,up:=[(nm,some (.box n [(ev x).cells] false))]} else none
def c1q (σ:b8) (_nm:Nat) (ev:RA→AV) (agg:Bool) (n:Nat) (x:RA):Option m8:=
 match ev x with
  | .ptr b i j=>match find σ b with
    | some o=>match o.row? i with
      | some row=>if j+n≤row.length then (match a2L agg ((row.drop j).take n) with | some v=>some {v:=v,rd:=[b]} | none=>none) else none
      | none=>none
    | none=>none
  | .pv (.ref cs)=>if n≤cs.length then (match a2L agg ((cs.take n).map .pv) with | some v=>some {v:=v} | none=>none) else none
  | _=>none
def c0c (σ:b8) (_nm:Nat) (ev:RA→AV) (n:Nat) (a:RA) (v:RA):Option m8:=
 match ev a with
  | .ptr b i j=>match find σ b with
    | some (.box es rows false)=>match rows[i]? with
      | some row=>if (ev v).cells.length=n∧j+n≤row.length∧y3 (ev v).cells=true then
       some {v:=.undef,rd:=[b],up:=[(b,some (.box es (rows.set i (G0 row j (ev v).cells)) false))]} else none
      | none=>none
    | some (.arr es rows false)=>match rows[i]? with
      | some row=>match R1 (ev v).cells with
        | some ps=>if (ev v).cells.length=n∧j+n≤row.length∧y3 (ev v).cells=true then
         some {v:=.undef,rd:=[b],up:=[(b,some (.arr es (rows.set i (row.take j++ps++row.drop (j+ps.length))) false))]} else none
        | none=>if (ev v).cells.length=n∧j+n≤row.length∧y3 (ev v).cells=true then
         some {v:=.undef,rd:=[b],up:=[(b,some (.box es ((rows.map (·.map AV.pv)).set i (G0 (row.map .pv) j (ev v).cells)) false))]} else none
      | none=>none
    | _=>none
  | _=>none
def b9Q (_σ:b8) (_nm:Nat) (ev:RA→AV) (op:BinOp) (x:RA) (y:RA):Option m8:=
 match b5g op (ev x) (ev y) with | some v=>m8.of v | none=>none
def b9T (_σ:b8) (_nm:Nat) (ev:RA→AV) (neq:Bool) (kinds:List Nat) (x:RA) (y:RA):Option m8:=
 match a7Q kinds (ev x).cells (ev y).cells with
  | some b=>if (ev x).a0Y=true∧(ev y).a0Y=true then m8.of (.pv (.bool (match neq with | true=>!b | false=>b))) else none
  | none=>none
def c3K (_σ:b8) (_nm:Nat) (ev:RA→AV) (neq:Bool) (x:RA) (y:RA):Option m8:=
 match ev x,ev y with
  | .pv (.bool a),.pv (.bool b)=>m8.of (.pv (.bool (match neq with | true=>!(a==b) | false=>a==b)))
  | _,_=>none
def b9Y (σ:b8) (_nm:Nat) (ev:RA→AV) (neq:Bool) (x:RA):Option m8:=
 match (ev x).e with
  | .emp _=>m8.of (.pv (.bool (!neq)))
  | .fsl _ rows=>(match rows with | []=>m8.of .U0 | _::_=>m8.of (.pv (.bool neq)))
  | .pv (.sl _ rows)=>(match rows with | []=>m8.of .U0 | _::_=>m8.of (.pv (.bool neq)))
  | .own b _ n=>match find σ b with
    | some _=>(match n with | 0=>some {v:=.U0,rd:=[b]} | _+1=>some {v:=.pv (.bool neq),rd:=[b]})
    | none=>none
  | _=>none
def c3N (_σ:b8) (_nm:Nat) (ev:RA→AV) (x:RA):Option m8:=
 match ev x with | .pv (.bool b)=>m8.of (.pv (.bool (!b))) | _=>none
def c3M (_σ:b8) (_nm:Nat) (ev:RA→AV) (x:RA):Option m8:=
 match ev x with | .pv (.int k n)=>m8.of (.pv (.int k (k.wrap (0 - n)))) | _=>none
def c1o (_σ:b8) (_nm:Nat) (ev:RA→AV) (k:IntKind) (x:RA):Option m8:=
 match ev x with | .pv (.int _ n)=>m8.of (.pv (.int k (k.wrap n))) | _=>none
def c1t (_σ:b8) (_nm:Nat) (ev:RA→AV) (x:RA):Option m8:=
 match ev x with | .pv (.str s)=>m8.of (.pv (.str s)) | _=>none
def c3O (_σ:b8) (nm:Nat) (ev:RA→AV) (x:RA):Option m8:=
 match ev x with
  | .pv (.str s)=>some {v:=.own nm 0 s.length,up:=[(nm,some (.arr 1 (s.map fun b=>[PV.int .u8 b.toNat]) false))]}
  | _=>none
def c3H (σ:b8) (_nm:Nat) (ev:RA→AV) (x:RA):Option m8:=
 match p9 σ 1 (ev x) with
  | some (rows,rd)=>match Q1 rows with | some s=>some {v:=.pv (.str s),rd:=rd} | none=>none
  | none=>none
def c3L (_σ:b8) (_nm:Nat) (ev:RA→AV) (fn:Fn) (first:List RA) (caps:List RA):Option m8:=
 m8.of (.func fn (first.map ev) (caps.map ev))
def b9Z (_σ:b8) (nm:Nat) (_ev:RA→AV):Option m8:=
 some {v:=.U7 nm,up:=[(nm,some (.map []))]}
def b8d (σ:b8) (_nm:Nat) (ev:RA→AV) (m:RA) (k:RA) (v:RA):Option m8:=
 match ev m,ev k with
  | .U7 b,.pv (.str s)=>match find σ b with
    | some (.map ents)=>match r6 s ents with
      | none=>some {v:=.undef,rd:=[b],up:=[(b,some (.map (U3 s (ev v) ents)))]}
      | some _=>none
    | _=>none
  | _,_=>none
def b8f (σ:b8) (_nm:Nat) (ev:RA→AV) (m:RA) (k:RA) (zero:AV):Option m8:=
 match ev m,ev k with
  | .U7 b,.pv (.str s)=>match find σ b with
    | some (.map ents)=>some {v:=match r6 s ents with | some v=>.s9 [v,.pv (.bool true)] | none=>.s9 [zero,.pv (.bool false)],rd:=[b]}
    | _=>none
  | _,_=>none
def b9S (σ:b8) (_nm:Nat) (ev:RA→AV) (es:Nat) (zero:List PV) (x:RA):Option m8:=
 match ev x with
  | .own b i n=>match find σ b with
    | some (.arr es' rows false)=>if es'=es∧i+n≤rows.length∧0<n∧zero.length=es then some {v:=.s9 [],rd:=[b],up:=[(b,some (.arr es (rows.take i++List.replicate n zero++rows.drop (i+n)) false))]} else none
    | _=>none
  | _=>none
def c1r (_σ:b8) (nm:Nat) (ev:RA→AV) (es:Nat) (bytes:Nat) (zero:List PV) (n:RA):Option m8:=
 match idxOf (ev n) with
  | some k=>if 0≤k∧k*bytes≤2 ^ 40∧zero.length=es∧0<bytes then some {v:=.own nm 0 k.toNat,up:=[(nm,some (.arr es (List.replicate k.toNat zero) false))]} else none
  | none=>none
def c0b (σ:b8) (_nm:Nat) (ev:RA→AV) (es:Nat) (x:RA) (lo:Option RA) (hi:Option RA) (mx:Option RA):Option m8:=
 match (ev x).e with
  | .own b i n=>match find σ b with
    | some o=>match l5 ev 0 lo,l5 ev n hi,l5 ev ((o.len:Int) - i) mx with
      | some l,some h,some m=>if 0≤l∧l≤h∧h≤m∧(mx.isNone=true∨m≤n)∧o.es=es∧(mx.isNone=true∨(o.len:Int)≤i+m) then some {v:=.own b (i+l.toNat) (h - l).toNat,rd:=[b]} else none
      | _,_,_=>none
    | none=>none
  | .pv (.sl e rows)=>if e=es then step.sliceP ev es rows lo hi mx else none
  | .fsl e rows=>if e=es then step.sliceP ev es rows lo hi mx else none
  | .emp e=>match l5 ev 0 lo,l5 ev 0 hi,l5 ev 0 mx with
    | some l,some h,some m=>if l=0∧h=0∧m=0 then m8.of (.emp e) else none
    | _,_,_=>none
  | _=>none
def b8h (_σ:b8) (_nm:Nat) (ev:RA→AV) (x:RA) (lo:Option RA) (hi:Option RA):Option m8:=
 match ev x with
  | .pv (.str s)=>match l5 ev 0 lo,l5 ev s.length hi with
    | some l,some h=>if 0≤l∧l≤h∧h≤s.length then m8.of (.pv (.str ((s.take h.toNat).drop l.toNat))) else none
    | _,_=>none
  | _=>none
def b9U (σ:b8) (_nm:Nat) (ev:RA→AV) (x:RA) (off:Nat):Option m8:=
 match ev x with
  | .ptr b i j=>match find σ b with | some _=>some {v:=.ptr b i (j+off),rd:=[b]} | none=>none
  | .pv (.ref cs)=>m8.of (.pv (.ref (cs.drop off)))
  | _=>none
def b9V (_σ:b8) (_nm:Nat) (ev:RA→AV) (agg:Bool) (off:Nat) (n:Nat) (x:RA):Option m8:=
 if off+n≤(ev x).cells.length∧(ev x).a0Y=true then (match a2L agg (((ev x).cells.drop off).take n) with | some v=>m8.of v | none=>none) else none
def b9W (σ:b8) (_nm:Nat) (ev:RA→AV) (es:Nat) (x:RA) (i:RA):Option m8:=
 match idxOf (ev i) with
  | some k=>match ev x with
    | .own b i n=>match find σ b with
      | some o=>if 0≤k∧k<n∧o.es=es then some {v:=.ptr b (i+k.toNat) 0,rd:=[b]} else none
      | none=>none
    | .pv (.sl e rows)=>if e=es then step.iaddrP k rows else none
    | .fsl e rows=>if e=es then step.iaddrP k rows else none
    | _=>none
  | none=>none
def c0a (σ:b8) (_nm:Nat) (ev:RA→AV) (len:Nat) (es:Nat) (x:RA) (i:RA):Option m8:=
 match idxOf (ev i) with
  | some k=>if 0≤k∧k<len then (match ev x with
    | .ptr b r j=>match find σ b with | some _=>some {v:=.ptr b r (j+k.toNat*es),rd:=[b]} | none=>none
    | .pv (.ref cs)=>m8.of (.pv (.ref (cs.drop (k.toNat*es))))
    | _=>none) else none
  | none=>none
def b8e (_σ:b8) (_nm:Nat) (ev:RA→AV) (neq:Bool) (x:RA):Option m8:=
 match ev x with
  | .func _ _ _=>m8.of (.pv (.bool neq))
  | .pv (.func _ _ _)=>m8.of (.pv (.bool neq))
  | .pv .nilFunc=>m8.of (.pv (.bool (!neq)))
  | _=>none
def b9X (_σ:b8) (_nm:Nat) (ev:RA→AV) (agg:Bool) (len:Nat) (es:Nat) (x:RA) (i:RA):Option m8:=
 match idxOf (ev i) with
  | some k=>if 0≤k∧k<len∧(ev x).cells.length=len*es∧(ev x).a0Y=true then (match a2L agg (((ev x).cells.drop (k.toNat*es)).take es) with | some v=>m8.of v | none=>none) else none
  | none=>none
def b8g (_σ:b8) (_nm:Nat) (ev:RA→AV) (x:RA) (i:RA):Option m8:=
 match ev x,idxOf (ev i) with
  | .pv (.str s),some k=>if 0≤k then (match s[k.toNat]? with | some b=>m8.of (.pv (.int .u8 b.toNat)) | none=>none) else none
  | _,_=>none
def b5P (_σ:b8) (_nm:Nat) (ev:RA→AV) (x:RA) (i:Nat):Option m8:=
 match ev x with
  | .s9 vs=>match vs[i]? with | some v=>m8.of v | none=>none
  | .pv (.s9 ps)=>match ps[i]? with | some p=>m8.of (.pv p) | none=>none
  | _=>none
def c1n (_σ:b8) (_nm:Nat) (_ev:RA→AV) (_u0:RA) (_u1:List RA):Option m8:=
 none
def c1u (σ:b8) (_nm:Nat) (ev:RA→AV) (x:RA):Option m8:=
 match (ev x).e with
  | .own b _ n=>match find σ b with | some _=>some {v:=.pv (.int .i64 n),rd:=[b]} | none=>none
  | .pv (.sl _ rows)=>m8.of (.pv (.int .i64 rows.length))
  | .fsl _ rows=>m8.of (.pv (.int .i64 rows.length))
  | .emp _=>m8.of (.pv (.int .i64 0))
  | _=>none
def b8i (_σ:b8) (_nm:Nat) (ev:RA→AV) (x:RA):Option m8:=
 match ev x with | .pv (.str s)=>m8.of (.pv (.int .i64 s.length)) | _=>none
def c1m (_σ:b8) (_nm:Nat) (_ev:RA→AV) (n:Nat):Option m8:=
 m8.of (.pv (.int .i64 n))
def b8c (σ:b8) (nm:Nat) (ev:RA→AV) (es:Nat) (bytes:Nat) (s:RA) (x:RA):Option m8:=
 match (ev s).e with
  | .emp _=>match rowsOf σ es (ev x) with
    | some (xs,rd)=>if xs.length*bytes≤2 ^ 40 then some {v:=.own nm 0 xs.length,rd:=rd,up:=[(nm,some (mkObj es xs))]} else none
    | none=>none
  | .fsl e rows=>match p9 σ es (ev x) with
    | some (xs,rd)=>if (rows.length+xs.length)*bytes≤2 ^ 40∧e=es then some {v:=.pv (.sl es (rows++xs)),rd:=rd} else none
    | none=>none
  | .own b 0 n=>match find σ b with
    | some (.arr es' rows sl)=>if rows.length=n∧es'=es then (match p9 σ es (ev x) with
      | some (xs,rd)=>if (n+xs.length)*bytes≤2 ^ 40 then some {v:=.own nm 0 (n+xs.length),rd:=b::rd,up:=[(b,none),(nm,some (.arr es (rows++xs) sl))]} else none
      | none=>match rowsOf σ es (ev x) with
        | some (xs,rd)=>if (n+xs.length)*bytes≤2 ^ 40 then some {v:=.own nm 0 (n+xs.length),rd:=b::rd,up:=[(b,none),(nm,some (.box es (rows.map (·.map AV.pv)++xs) sl))]} else none
        | none=>none) else (match sl with
          | true=>none
          | false=>match p9 σ es (ev x) with
            | some (xs,rd)=>if n+xs.length≤rows.length∧0<rows.length∧es'=es then some {v:=.own b 0 (n+xs.length),rd:=b::rd,up:=[(b,some (.arr es (rows.take n++xs++rows.drop (n+xs.length)) false))]} else none
            | none=>none)
    | some (.box es' rows sl)=>if rows.length=n∧es'=es then (match rowsOf σ es (ev x) with
      | some (xs,rd)=>if (n+xs.length)*bytes≤2 ^ 40 then some {v:=.own nm 0 (n+xs.length),rd:=b::rd,up:=[(b,none),(nm,some (.box es (rows++xs) sl))]} else none
      | none=>none) else none
    | _=>none
  | _=>none
def c1p (σ:b8) (_nm:Nat) (ev:RA→AV) (es:Nat) (d:RA) (s:RA):Option m8:=
 match ev d with
  | .own b i n=>match find σ b with
    | some (.arr es' rows false)=>if es'=es then (match p9 σ es (ev s) with
      | some (xs,rd)=>if i+n≤rows.length then
       some {v:=.pv (.int .i64 (min xs.length n:Nat)),rd:=b::rd,up:=[(b,some (.arr es (rows.take i++xs.take (min xs.length n)++rows.drop (i+min xs.length n)) false))]} else none
      | none=>none) else none
    | _=>none
  | _=>none
def c4O (_σ:b8) (_nm:Nat) (ev:RA→AV) (isMax:Bool) (xs:List RA):Option m8:=
 match xs with
  | []=>none
  | x::l=>match mmF isMax ev (ev x) l with | some v=>m8.of v | none=>none
def b9R (_σ:b8) (_nm:Nat) (ev:RA→AV) (zeros:List AV) (parts:List (Nat × Nat × RA)):Option m8:=
 match a5P zeros (parts.map fun (o,n,x)=>(o,n,ev x)) with | some cs=>m8.of (.agg cs) | none=>none
def c3J (_σ:b8) (nm:Nat) (ev:RA→AV) (es:Nat) (n:Nat) (zeros:List AV) (parts:List (Nat × RA)):Option m8:=
 match a5P (List.replicate n zeros).flatten (parts.map fun (i,x)=>(i*es,es,ev x)) with
  | some cs=>if y3 cs=true then some {v:=.own nm 0 n,up:=[(nm,some (mkObj es (step.chop es n cs)))]} else none
  | none=>none
def b4X (σ:b8) (nm:Nat) (ev:RA→AV):ROp→Option m8
 | .mv x=>c4P σ nm ev x
 | .pick c a b=>c1s σ nm ev c a b
 | .alloc zero=>b9P σ nm ev zero
 | .box n x=>c3I σ nm ev n x
 | .load agg n x=>c1q σ nm ev agg n x
 | .store n a v=>c0c σ nm ev n a v
 | .bin op x y=>b9Q σ nm ev op x y
 | .eqs neq kinds x y=>b9T σ nm ev neq kinds x y
 | .eqb neq x y=>c3K σ nm ev neq x y
 | .a9w neq x=>b9Y σ nm ev neq x
 | .not x=>c3N σ nm ev x
 | .neg x=>c3M σ nm ev x
 | .conv k x=>c1o σ nm ev k x
 | .same x=>c1t σ nm ev x
 | .s2b x=>c3O σ nm ev x
 | .b2s x=>c3H σ nm ev x
 | .mkf fn first caps=>c3L σ nm ev fn first caps
 | .b0Z=>b9Z σ nm ev
 | .insert m k v=>b8d σ nm ev m k v
 | .lookup m k zero=>b8f σ nm ev m k zero
 | .clear es zero x=>b9S σ nm ev es zero x
 | .b1a es bytes zero n=>c1r σ nm ev es bytes zero n
 | .slice es x lo hi mx=>c0b σ nm ev es x lo hi mx
 | .a3Q x lo hi=>b8h σ nm ev x lo hi
 | .b0 x off=>b9U σ nm ev x off
 | .field agg off n x=>b9V σ nm ev agg off n x
 | .o9 es x i=>b9W σ nm ev es x i
 | .a4p len es x i=>c0a σ nm ev len es x i
 | .a5S neq x=>b8e σ nm ev neq x
 | .index agg len es x i=>b9X σ nm ev agg len es x i
 | .a7D x i=>b8g σ nm ev x i
 | .extract x i=>b5P σ nm ev x i
 | .call _u0 _u1=>c1n σ nm ev _u0 _u1
 | .q0 x=>c1u σ nm ev x
 | .N6 x=>b8i σ nm ev x
 | .b6V n=>c1m σ nm ev n
 | .append es bytes s x=>b8c σ nm ev es bytes s x
 | .copy es d s=>c1p σ nm ev es d s
 | .mm isMax xs=>c4O σ nm ev isMax xs
 | .build zeros parts=>b9R σ nm ev zeros parts
 | .Z5 es n zeros parts=>c3J σ nm ev es n zeros parts
def ROp.b5r:ROp→Bool
 | .call _ _=>true
 | _=>false
theorem c0e (σ:b8) (nm:Nat) (ev:RA→AV) (op:ROp):b4X σ nm ev op=step σ nm ev op:=by
 cases op <;>first | rfl | (simp only [b4X,b9Q,b6X];rfl) | (simp only [b4X,b9T,a9q];rfl)
end Go.Ab
namespace Go.Ab
inductive Way where
 | here
 | lft (p:Way)
 | rgt (p:Way)
def way:Nat→Nat→Way
 | 0,_=>.here
 | d+1,n=>match n % 2 with
   | 0=>.lft (way d (n / 2))
   | _=>.rgt (way d (n / 2))
def c4E (t:T):AV:=match t with | .leaf v=>v | _=>.undef
noncomputable def c4y (p:Way):T→AV:=Way.rec (motive:=fun _=>T→AV) (fun t=>c4E t) (fun _ ih t=>ih t.l) (fun _ ih t=>ih t.r) p
noncomputable def c1b (v:AV) (p:Way):T→T:=Way.rec (motive:=fun _=>T→T) (fun _=>.leaf v) (fun _ ih t=>.node (ih t.l) t.r) (fun _ ih t=>.node t.l (ih t.r)) p
theorem b3e:∀ (d:Nat) (t:T) (n:Nat),c4y (way d n) t=T.get d t n
 | 0,t,n=>by cases t <;>rfl
 | d+1,t,n=>by
   have hl:∀ (t:T),T.get (d+1) t n=match n % 2 with | 0=>T.get d t.l (n / 2) | _=>T.get d t.r (n / 2):=by
    intro t
    cases t with
    | node l r=>rfl
    | nil=>simp only [T.l,T.r,T.get];split <;>(cases d <;>rfl)
    | leaf x=>simp only [T.l,T.r,T.get];split <;>(cases d <;>rfl)
   rw [hl]
   simp only [way]
   rcases Nat.mod_two_eq_zero_or_one n with h | h <;>simp only [h]
   ·exact b3e d _ _
   ·exact b3e d _ _
theorem b3J (v:AV):∀ (d:Nat) (t:T) (n:Nat),c1b v (way d n) t=T.set d t n v
 | 0,t,n=>rfl
 | d+1,t,n=>by
   simp only [way,T.set]
   rcases Nat.mod_two_eq_zero_or_one n with h | h <;>simp only [h]
   ·show T.node (c1b v (way d (n / 2)) t.l) t.r=_
    rw [b3J v d]
   ·show T.node t.l (c1b v (way d (n / 2)) t.r)=_
    rw [b3J v d]
noncomputable def c0i (t:T) (n:Nat):AV:=c4y (way 10 n) t
noncomputable def c0j (t:T) (n:Nat) (v:AV):T:=c1b v (way 10 n) t
theorem c2l (t:T) (n:Nat):c0i t n=T.get e9 t n:=b3e 10 t n
theorem c2m (t:T) (n:Nat) (v:AV):c0j t n v=T.set e9 t n v:=b3J v 10 t n
noncomputable def evE (G:Gl) (st:St):RA→AV
 | .t n=>c0i st.tm n
 | .c v=>v
 | .f g=>.func (.func g) [] []
 | .g i=>match G i with | some cs=>.pv (.ref cs) | none=>.undef
theorem b0G (G:Gl) (st:St):evE G st=St.ev G st:=by
 funext r
 cases r with
 | t n=>exact c2l _ _
 | c v=>rfl
 | f g=>rfl
 | g i=>rfl
end Go.Ab
namespace Go.Ab
abbrev c0y:=List AV→b8→Nat→Option (AV × b8 × Nat × Nat)
noncomputable def b0a {α:Sort _} (st:St) (dst:Option Nat) (v:AV) (σ:b8) (K:St→α):α:=
 match st with
 | ⟨tm,_,nx,nt⟩=>match dst with
   | some d=>K ⟨c0j tm d v,σ,nx,nt⟩
   | none=>K ⟨tm,σ,nx,nt⟩
theorem a3n {α:Sort _} (st:St) (dst:Option Nat) (v:AV) (σ:b8) (K:St→α):b0a st dst v σ K=K (u9 st dst v σ):=by
 obtain ⟨tm,s,nx,nt⟩:=st
 cases dst <;>simp [b0a,u9,c2m]
structure b1E where
 inl:Nat→Option a3t
 itr:Nat→Option (Nat→c0y→a3t)
 yld:Option (Nat × c0y)
 call:Nat→List PV→Option (Own × PV)
section
variable (G:Gl)
noncomputable def opE {β:Type} (C:Nat→List PV→Option (Own × PV)) (r:p8) (nm:Nat) (st:St) (K:St→Rec→Option β):Option β:=
 match r.op with
 | .call f args=>match Q4 (evE G st f) with
   | some (g,a,b)=>match G.a7B g with
     | some p=>(match p.run (a++args.map (evE G st)++b) st.σ,st with
       | some (v,c,es,rows),⟨tm,σ,nx,nt⟩=>E5 c fun c'=>a3R σ [(c',some (.arr es rows false))] fun σ'=>b0a ⟨tm,σ,nx,nt⟩ r.dst v σ' fun st'=>K st' {rd:=[c'],sl:=[],wr:=[c'],pre:=r.pre}
       | none,_=>none)
     | none=>match a6i (pub st.σ 8) (a++args.map (evE G st)++b) with
       | some (ps,m)=>(match C g ps,st with
         | some (own,res),⟨tm,σ,nx,nt⟩=>match imp own nm res with
           | (v,up)=>a2R σ m fun σ₁=>a3R σ₁ up fun σ₂=>b0a ⟨tm,σ,nx,nt⟩ r.dst v σ₂ fun st'=>K st' {rd:=[],sl:=m,wr:=up.map (·.1),pre:=r.pre}
         | none,_=>none)
       | none=>none
   | none=>none
 | op=>match st with
   | ⟨tm,σ,nx,nt⟩=>match b4X σ nm (evE G ⟨tm,σ,nx,nt⟩) op with
     | some e=>b0a ⟨tm,σ,nx,nt⟩ r.dst e.v (j7 σ e.up) fun st'=>K st' (a8y (evE G ⟨tm,σ,nx,nt⟩) op e r.pre)
     | none=>none
noncomputable def b1J {β:Type} (C:Nat→List PV→Option (Own × PV)) (r:p8) (nm:Nat) (st:St) (K:St→Rec→Option β):Option β:=
 match r.guard with
 | none=>opE G C r nm st K
 | some (t,want)=>match evE G st (.t t) with
   | .pv (.bool x)=>(match x,want with
     | true,true=>opE G C r nm st K
     | false,false=>opE G C r nm st K
     | _,_=>match st with | ⟨tm,σ,nx,nt⟩=>b0a ⟨tm,σ,nx,nt⟩ r.dst (.s9 []) σ fun st'=>K st' {rd:=[],sl:=[],wr:=[],pre:=r.pre})
   | .s9 []=>(match st with | ⟨tm,σ,nx,nt⟩=>b0a ⟨tm,σ,nx,nt⟩ r.dst (.s9 []) σ fun st'=>K st' {rd:=[],sl:=[],wr:=[],pre:=r.pre})
   | _=>none
noncomputable def opN {β:Type} (r:p8) (nm:Nat) (st:St) (K:St→Rec→Option β):Option β:=
 match st with
 | ⟨tm,σ,nx,nt⟩=>match b4X σ nm (evE G ⟨tm,σ,nx,nt⟩) r.op with
   | some e=>b0a ⟨tm,σ,nx,nt⟩ r.dst e.v (j7 σ e.up) fun st'=>K st' (a8y (evE G ⟨tm,σ,nx,nt⟩) r.op e r.pre)
   | none=>none
noncomputable def c3q {β:Type} (r:p8) (nm:Nat) (st:St) (K:St→Rec→Option β):Option β:=
 match r.guard with
 | none=>opN G r nm st K
 | some (t,want)=>match evE G st (.t t) with
   | .pv (.bool x)=>(match x,want with
     | true,true=>opN G r nm st K
     | false,false=>opN G r nm st K
     | _,_=>match st with | ⟨tm,σ,nx,nt⟩=>b0a ⟨tm,σ,nx,nt⟩ r.dst (.s9 []) σ fun st'=>K st' {rd:=[],sl:=[],wr:=[],pre:=r.pre})
   | .s9 []=>(match st with | ⟨tm,σ,nx,nt⟩=>b0a ⟨tm,σ,nx,nt⟩ r.dst (.s9 []) σ fun st'=>K st' {rd:=[],sl:=[],wr:=[],pre:=r.pre})
   | _=>none
theorem c0M {β:Type} (C:Nat→List PV→Option (Own × PV)) (r:p8) (nm:Nat) (st:St) (K:St→Rec→Option β) (h:r.op.b5r=false):c3q G r nm st K=b1J G C r nm st K:=by
 have:opN G r nm st K=opE G C r nm st K:=by
  obtain ⟨dst,op,guard,pre⟩:=r
  cases op <;>first | rfl | cases h
 unfold c3q b1J
 rw [this]
def b1q (r:Rec):Bool:=match r.rd,r.sl,r.wr,r.ins with
 | [],[],[],none=>true
 | _,_,_,_=>false
def a6r (r:Rec):Nat→List Rec→Bool
 | k+1,x::l=>(b1q x||(!x.a0H r||r.pre.testBit k))&&a6r r k l
 | 0,_::_=>false
 | _,[]=>true
noncomputable def b9q {β:Type} (C:Nat→List PV→Option (Own × PV)):List p8→Nat→Nat→List Rec→St→(St→Option β)→Option β
 | [],_,_,_,st,K=>K st
 | r::l,nm,k,acc,st,K=>E5 nm fun nm'=>E5 k fun k'=>b1J G C r nm' st fun st' rec=>match b1q rec||a6r rec k' acc with
   | true=>b9q C l (nm'+j4) (k'+1) (rec::acc) st' K
   | false=>none
noncomputable def b2S {β:Type} (h:a3t) (args:List AV) (dst:Option Nat) (st:St) (K:St→Option β):Option β:=
 match st with
 | ⟨tm,σ,nx,nt⟩=>match h args σ nx with
   | some (v,σ',nx')=>b0a ⟨tm,σ',nx',nt⟩ dst v σ' K
   | none=>none
noncomputable def b8K {β:Type} (h:c0y) (args:List AV) (dst:Option Nat) (st:St) (K:St→Option β):Option β:=
 match st with
 | ⟨tm,σ,nx,nt⟩=>match tm.get e9 K9 with
   | .mark 0=>(match h args σ nx with
     | some (v,σ',nx',pd)=>E5 pd fun pd'=>b0a ⟨T.set e9 tm K9 (.mark pd'),σ',nx',nt⟩ dst v σ' K
     | none=>none)
   | _=>none
noncomputable def b4r {β:Type} (E:b1E) (r:p8) (nm:Nat) (st:St) (K:St→Option β):Option β:=
 match r.op with
 | .call f args=>match evE G st f with
   | .yld b=>(match E.yld,r.guard with
     | some (b',h),none=>(match b'==b with
       | true=>b8K h (args.map (evE G st)) r.dst st K
       | false=>none)
     | _,_=>none)
   | fv=>match Q4 fv with
     | some (g,a,b)=>(match E.inl g with
       | some h=>(match r.guard with
         | none=>b2S h (a++args.map (evE G st)++b) r.dst st K
         | some (t,want)=>match b3g (evE G st (.t t)) want with
           | true=>b2S h (a++args.map (evE G st)++b) r.dst st K
           | false=>b1J G E.call r nm st fun st' _=>K st')
       | none=>b1J G E.call r nm st fun st' _=>K st')
     | none=>b1J G E.call r nm st fun st' _=>K st'
 | _=>b1J G E.call r nm st fun st' _=>K st'
noncomputable def c3r {β:Type} (E:b1E) (r:p8) (nm:Nat) (st:St) (K:St→Option β):Option β:=
 match r.op.b5r with
 | true=>b4r G E r nm st K
 | false=>c3q G r nm st fun st' _=>K st'
theorem c0N {β:Type} (E:b1E) (r:p8) (nm:Nat) (st:St) (K:St→Option β):c3r G E r nm st K=b4r G E r nm st K:=by
 unfold c3r
 cases h:r.op.b5r with
 | true=>rfl
 | false=>
   simp only
   rw [c0M G E.call _ _ _ _ h]
   unfold b4r
   cases ho:r.op with
   | call f args=>rw [ho] at h;cases h
   | _=>rfl
noncomputable def b6y {β:Type} (E:b1E):List p8→Nat→St→(St→Option β)→Option β
 | [],_,st,K=>K st
 | r::l,nm,st,K=>E5 nm fun nm'=>c3r G E r nm' st fun st'=>b6y E l (nm'+j4) st' K
def b4A (live:List Nat) (G5:Bool) (f:St→Option (Ex × St)):Nat→St→Option (Ex × St)
 | 0,_=>none
 | n+1,s=>match (match G5 with | true=>a6a live s f | false=>f s) with
   | some (.normal,s')=>b4A live G5 f n s'
   | r=>r
def c4t:Ex→St→Option (AV × b8 × Nat × Nat)
 | .normal,⟨_,σ,nx,_⟩=>some (.pv (.bool true),σ,nx,0)
 | .ret,⟨_,σ,nx,_⟩=>some (.pv (.bool false),σ,nx,1)
 | .exit i,⟨_,σ,nx,_⟩=>some (.pv (.bool false),σ,nx,i+2)
def c2y (tm:T) (nt:Nat):AV × b8 × Nat→Option (Ex × St)
 | (.mark 0,σ,nx)=>some (.normal,⟨tm,σ,nx,nt⟩)
 | (.mark 1,σ,nx)=>some (.ret,⟨tm,σ,nx,nt⟩)
 | (.mark (k+2),σ,nx)=>some (.exit k,⟨tm,σ,nx,nt⟩)
 | _=>none
noncomputable def evC (fu:Nat):RC→Bool→b1E→St→Option (Ex × St)
 | .skip,_,_,st=>some (.normal,st)
 | .b9 ops draw,_,E,⟨tm,σ,nx,nt⟩=>E5 (nx+j4*ops.length) fun nx'=>(match draw with
   | true=>b9q G E.call ops nx 0 [] ⟨tm,σ,nx',nt⟩ fun st=>some (.normal,st)
   | false=>b6y G E ops nx ⟨tm,σ,nx',nt⟩ fun st=>some (.normal,st))
 | .seq a b,G5,E,st=>match evC fu a G5 E st with
   | some (.normal,st')=>evC fu b G5 E st'
   | r=>r
 | .cond c a b,G5,E,st=>match evE G st c with
   | .pv (.bool x)=>(match x with | true=>evC fu a G5 E st | false=>evC fu b G5 E st)
   | _=>none
 | .block id b,G5,E,st=>match evC fu b G5 E st with
   | some (.exit i,st')=>(match i==id with | true=>some (.normal,st') | false=>some (.exit i,st'))
   | r=>r
 | .loop live b,G5,E,st=>b4A live G5 (fun s=>evC fu b G5 E s) fu st
 | .rng f ps as bd,_,E,⟨tm,σ,nx,nt⟩=>match Q4 (evE G ⟨tm,σ,nx,nt⟩ f) with
   | some (g,a,b)=>(match E.itr g with
     | some it=>E5 (nx+1) fun nx1=>match it nx (fun args σ₁ nx₁=>match args.length==ps.length with
      | true=>a9E ps args tm fun tm'=>match evC fu as false ⟨E.inl,fun _=>none,none,E.call⟩ ⟨tm',σ₁,nx₁,nt⟩ with
        | some (.normal,s₁)=>(match evC fu bd false ⟨E.inl,fun _=>none,none,E.call⟩ s₁ with
          | some (e,s₂)=>c4t e s₂
          | none=>none)
        | _=>none
      | false=>none) (a++[.yld nx]++b) σ nx1 with
       | some r=>c2y tm nt r
       | none=>none
     | none=>none)
   | none=>none
 | .exit id,_,_,st=>some (.exit id,st)
 | .scope b,G5,E,st=>evC fu b G5 E st
 | .ret,_,_,st=>some (.ret,st)
noncomputable def b9x (rs:List a7f):Ex × St→Option (AV × b8 × Nat)
 | (.exit _,_)=>none
 | (_,⟨tm,σ,nx,nt⟩)=>match V9 G ⟨tm,σ,nx,nt⟩ rs with
   | some vs=>E4 (a4s vs) fun v=>some (v,σ,nx)
   | none=>none
noncomputable def b9y:Ex × St→Option (AV × b8 × Nat)
 | (.exit _,_)=>none
 | (_,⟨tm,σ,nx,_⟩)=>E4 (tm.get e9 K9) fun v=>some (v,σ,nx)
noncomputable def b9A (rs:List a7f):Ex × St→Option PV
 | (.exit _,_)=>none
 | (_,st)=>match V9 G st rs with
   | some vs=>(match pub st.σ 8 (a4s vs) with
     | some (p,_)=>some p
     | none=>none)
   | none=>none
noncomputable def b9z (rs:List a7f):Ex × St→Option (Own × PV)
 | (.exit _,_)=>none
 | (_,st)=>match V9 G st rs with
   | some [.own b 0 n]=>(match a3l st.σ b with
     | some (es,rows,_)=>(match rows.length==n with | true=>some ([(0,0)],.sl es rows) | false=>none)
     | none=>none)
   | some [.own b 0 n,.pv (.int k i)]=>(match a3l st.σ b with
     | some (es,rows,_)=>(match rows.length==n with | true=>some ([(0,0)],.s9 [.sl es rows,.int k i]) | false=>none)
     | none=>none)
   | _=>none
noncomputable def a4O (kn:Nat→List PV→Option (Own × PV)) (ext:Nat→Option a3t) (tab A0 a1T a1U:Nat→Option x4) (fu:Nat):Nat→b1E
 | 0=>⟨fun _=>none,fun _=>none,none,fun _ _=>none⟩
 | d+1=>⟨fun g=>match ext g with
    | some r=>some r
    | none=>match tab g with
      | some c=>some fun args σ nx=>(match args.length==c.nparams with
        | true=>a7h 0 args .nil fun tm=>match evC G fu c.body false (a4O kn ext tab A0 a1T a1U fu d) ⟨tm,σ,nx,c.ntmps⟩ with
          | some r=>b9x G c.res r
          | none=>none
        | false=>none)
      | none=>none,
   fun g=>match A0 g with
    | some c=>some fun b h args σ nx=>(match args.length==c.nparams with
      | true=>a7h 0 args .nil fun tm=>match evC G fu c.body false ⟨(a4O kn ext tab A0 a1T a1U fu d).inl,(a4O kn ext tab A0 a1T a1U fu d).itr,some (b,h),(a4O kn ext tab A0 a1T a1U fu d).call⟩ ⟨T.set e9 tm K9 (.mark 0),σ,nx,c.ntmps⟩ with
        | some r=>b9y r
        | none=>none
      | false=>none)
    | none=>none,none,
   fun g ps=>match kn g ps with
    | some r=>some r
    | none=>match a1T g with
    | some c=>(match ps.length==c.nparams with
      | true=>a7L 0 ps .nil fun tm=>match evC G fu c.body true (a4O kn ext tab A0 a1T a1U fu d) ⟨tm,[],0,c.ntmps⟩ with
        | some r=>(match b9A G c.res r with | some p=>some ([],p) | none=>none)
        | none=>none
      | false=>none)
    | none=>match a1U g with
      | some c=>(match ps.length==c.nparams with
        | true=>a7L 0 ps .nil fun tm=>match evC G fu c.body true (a4O kn ext tab A0 a1T a1U fu d) ⟨tm,[],0,c.ntmps⟩ with
          | some r=>b9z G c.res r
          | none=>none
        | false=>none)
      | none=>none⟩
end
section
variable {P:Program} {G:Gl}
def c2s (hE:c0y) (h:b6U):Prop:=∀ args σ nx v σ' nx' pd (K:AV→b8→Nat→Nat→Prop),hE args σ nx=some (v,σ',nx',pd)→K v σ' nx' pd→h args σ nx K
def c2p (hE:a3t) (h:List AV→b8→Nat→(AV→b8→Nat→Prop)→Prop):Prop:=∀ args σ nx v σ' nx' (K:AV→b8→Nat→Prop),hE args σ nx=some (v,σ',nx')→K v σ' nx'→h args σ nx K
structure a4w (P:Program) (G:Gl) (EE:b1E) (E:Env):Prop where
 inl:∀ g hE,EE.inl g=some hE→∃ h,E.inl g=some h∧c2p hE h
 b6x:∀ g,EE.inl g=none→E.inl g=none
 itr:∀ g it,EE.itr g=some it→∃ it',E.itr g=some it'∧∀ b hE h,c2s hE h→c2p (it b hE) (it' b h)
 yld:∀ b hE,EE.yld=some (b,hE)→∃ h,E.yld=some (b,h)∧c2s hE h
 call:∀ g ps own r,EE.call g ps=some (own,r)→l9 P G g ps own r
theorem a9c {β:Type} {C:Nat→List PV→Option (Own × PV)} (hC:∀ g ps own r,C g ps=some (own,r)→l9 P G g ps own r) {r:p8} {nm:Nat} {st:St} {K:St→Rec→Option β} {b:β} (h:opE G C r nm st K=some b):
 ∃ st' rec,K st' rec=some b∧∀ KP:St→Rec→Prop,KP st' rec→opW G (l9 P G) r nm st KP:=by
 obtain ⟨tm,σ,nx,nt⟩:=st
 obtain ⟨dst,op,guard,pre⟩:=r
 unfold opE at h
 simp only [b0G] at h
 cases op with
 | call f args=>
   simp only at h
   split at h
   ·rename_i g a b' hca
    split at h
    ·rename_i p hp
     split at h
     ·rename_i v c es rows _ _ _ _ hres heq
      cases heq
      simp only [m7,H7,a3n] at h
      refine ⟨_,_,h,fun KP hKP=>?_⟩
      unfold opW
      simp only [hca,hp,hres,m7,H7,G4]
      exact hKP
     ·cases h
    ·rename_i hnp
     split at h
     ·rename_i ps m hp
      split at h
      ·rename_i own res _ _ _ _ hres heq
       cases heq
       simp only [a1G,H7,a3n] at h
       refine ⟨_,_,h,fun KP hKP=>?_⟩
       unfold opW
       simp only [hca,hnp,hp]
       refine ⟨own,res,hC _ _ _ _ hres,?_⟩
       simp only [H7,a1G,G4]
       exact hKP
      ·cases h
     ·cases h
   ·cases h
 | _=>
   simp only at h
   split at h
   ·rename_i e he
    rw [c0e] at he
    simp only [a3n] at h
    refine ⟨_,_,h,fun KP hKP=>?_⟩
    unfold opW
    simp only [he,H7,G4]
    exact hKP
   ·cases h
theorem b0S {β:Type} {C:Nat→List PV→Option (Own × PV)} (hC:∀ g ps own r,C g ps=some (own,r)→l9 P G g ps own r) {r:p8} {nm:Nat} {st:St} {K:St→Rec→Option β} {b:β} (h:b1J G C r nm st K=some b):
 ∃ st' rec,K st' rec=some b∧∀ KP:St→Rec→Prop,KP st' rec→a7p G (l9 P G) r nm st KP:=by
 unfold b1J at h
 simp only [b0G] at h
 unfold a7p
 cases hg:r.guard with
 | none=>rw [hg] at h;exact a9c hC h
 | some tw=>
   obtain ⟨t,want⟩:=tw
   rw [hg] at h
   simp only at h ⊢
   split at h
   ·rename_i x hx
    simp only [hx]
    cases x <;>cases want <;>simp only at h ⊢
    ·exact a9c hC h
    ·obtain ⟨tm,σ,nx,nt⟩:=st
     simp only [a3n] at h
     simp only [G4]
     exact ⟨_,_,h,fun KP hKP=>hKP⟩
    ·obtain ⟨tm,σ,nx,nt⟩:=st
     simp only [a3n] at h
     simp only [G4]
     exact ⟨_,_,h,fun KP hKP=>hKP⟩
    ·exact a9c hC h
   ·rename_i hx
    simp only [hx]
    obtain ⟨tm,σ,nx,nt⟩:=st
    simp only [a3n] at h
    simp only [G4]
    exact ⟨_,_,h,fun KP hKP=>hKP⟩
   ·cases h
theorem a9B {a b:Rec} (h:b1q a=true):a.a0H b=false∧b.a0H a=false:=by
 obtain ⟨rd,sl,wr,pre,ins⟩:=a
 unfold b1q at h
 split at h
 ·rename_i h1 h2 h3 h4
  simp only at h1 h2 h3 h4
  subst h1;subst h2;subst h3;subst h4
  have m1:∀ l:List Nat,meets l []=false:=fun l=>by simp [meets]
  have m2:∀ l:List Nat,meets [] l=false:=fun l=>rfl
  refine ⟨?_,?_⟩
  ·simp only [Rec.a0H,m2,Rec.a2A,Bool.or_false,Bool.false_or]
   cases hb:b.ins with
   | none=>rfl
   | some x=>rfl
  ·simp only [Rec.a0H,m1,Rec.a2A,Bool.or_false,Bool.false_or]
   cases hb:b.ins with
   | none=>rfl
   | some x=>rfl
 ·cases h
def b3W (recs:List Rec):Prop:=∀ (i j:Nat) (x r:Rec),i<j→recs[i]?=some x→recs[j]?=some r→x.a0H r=true→r.pre.testBit i=true
theorem a7U {r:Rec}:∀ (l:List Rec) (i:Nat),(∀ k x,l[k]?=some x→x.a0H r=true→r.pre.testBit (i+k)=true)→a0W r i l=true
 | [],_,_=>rfl
 | y::l,i,h=>by
   simp only [a0W,Bool.and_eq_true,Bool.or_eq_true,Bool.not_eq_true']
   refine ⟨?_,a7U l (i+1) fun k x hx hc=>by have:=h (k+1) x (by simpa using hx) hc;rwa [show i+1+k=i+(k+1) by omega]⟩
   cases hc:y.a0H r with
   | false=>exact .inl rfl
   | true=>exact .inr (h 0 y rfl hc)
theorem b2k:∀ (l done:List Rec),b3W (done++l)→j6 done l=true
 | [],_,_=>rfl
 | r::l,done,h=>by
   simp only [j6,Bool.and_eq_true]
   refine ⟨a7U done 0 fun k x hx hc=>?_,b2k l _ (by simpa using h)⟩
   have hk:=(List.getElem?_eq_some_iff.1 hx).1
   have:=h k done.length x r hk (by rw [List.getElem?_append_left hk];exact hx) (by simp) hc
   simpa using this
theorem a7V {r:Rec}:∀ (k:Nat) (acc:List Rec),a6r r k acc=true→acc.length≤k∧∀ i x,acc[i]?=some x→x.a0H r=true→r.pre.testBit (k - 1 - i)=true
 | k,[],_=>⟨Nat.zero_le _,fun i x h=>by simp at h⟩
 | 0,_::_,h=>by simp [a6r] at h
 | k+1,y::acc,h=>by
   simp only [a6r,Bool.and_eq_true,Bool.or_eq_true,Bool.not_eq_true'] at h
   obtain ⟨h1,h2⟩:=a7V k acc h.2
   refine ⟨by simp;omega,fun i x hx hc=>?_⟩
   cases i with
   | zero=>
     simp at hx;subst hx
     rcases h.1 with hq | hq | hq
     ·rw [(a9B hq).1] at hc;cases hc
     ·rw [hq] at hc;cases hc
     ·simpa using hq
   | succ i=>
     have:=h2 i x (by simpa using hx) hc
     rwa [show k+1 - 1 - (i+1)=k - 1 - i by omega]
theorem b3W.push {acc:List Rec} {r:Rec} (h:b3W acc.reverse) (hr:(b1q r||a6r r acc.length acc)=true):b3W (r::acc).reverse:=by
 intro i j x y hij hx hy hc
 rw [List.reverse_cons] at hx hy
 have hj:=(List.getElem?_eq_some_iff.1 hy).1
 simp only [List.length_append,List.length_reverse,List.length_cons,List.length_nil] at hj
 by_cases e:j=acc.length
 ·subst e
  rw [List.getElem?_append_right (by simp)] at hy
  simp at hy;subst hy
  rw [List.getElem?_append_left (by simpa using hij)] at hx
  rw [Bool.or_eq_true] at hr
  rcases hr with hq | hq
  ·rw [(a9B hq).2] at hc;cases hc
  ·obtain ⟨_,h2⟩:=a7V _ _ hq
   rw [List.getElem?_reverse hij] at hx
   have:=h2 _ x hx hc
   rwa [show acc.length - 1 - (acc.length - 1 - i)=i by omega] at this
 ·rw [List.getElem?_append_left (by simp;omega)] at hx hy
  exact h i j x y hij hx hy hc
theorem b1j {β:Type} {C:Nat→List PV→Option (Own × PV)} (hC:∀ g ps own r,C g ps=some (own,r)→l9 P G g ps own r) {b:β}:∀ (l:List p8) (nm:Nat) (acc:List Rec) (st:St) (K:St→Option β),b3W acc.reverse→b9q G C l nm acc.length acc st K=some b→
 ∃ st',K st'=some b∧∀ KP:St→Prop,KP st'→a9Z G (l9 P G) true l nm acc.reverse st KP
 | [],nm,acc,st,K,ha,h=>by
   simp only [b9q] at h
   exact ⟨st,h,fun KP hKP=>by simp only [a9Z,b2k acc.reverse [] (by simpa using ha)];exact hKP⟩
 | r::l,nm,acc,st,K,ha,h=>by
   simp only [b9q,m7] at h
   obtain ⟨st₁,rec,h1,h2⟩:=b0S hC h
   split at h1
   ·rename_i hr
    obtain ⟨st₂,h3,h4⟩:=b1j hC l _ (rec::acc) _ _ (ha.push hr) (by simpa using h1)
    exact ⟨st₂,h3,fun KP hKP=>by simp only [a9Z,m7];exact h2 _ (by have:=h4 KP hKP;simpa using this)⟩
   ·cases h1
theorem b4s {β:Type} {EE:b1E} {E:Env} (hL:a4w P G EE E) {r:p8} {nm:Nat} {st:St} {K:St→Option β} {b:β} (h:b4r G EE r nm st K=some b):
 ∃ st',K st'=some b∧∀ KP:St→Prop,KP st'→a8Q G (l9 P G) E r nm st KP:=by
 have plain:b1J G EE.call r nm st (fun st' _=>K st')=some b→∃ st',K st'=some b∧∀ KP:St→Prop,KP st'→a7p G (l9 P G) r nm st (fun st' _=>KP st'):=fun h=>by
  obtain ⟨st',rec,h1,h2⟩:=b0S hL.call h
  exact ⟨st',h1,fun KP hKP=>h2 _ hKP⟩
 unfold b4r at h
 simp only [b0G] at h
 unfold a8Q
 split at h
 ·rename_i f args hop
  simp only [hop]
  split at h
  ·rename_i y hy
   simp only [hy]
   split at h
   ·rename_i b' hE hEy hgd
    split at h
    ·rename_i hbb
     obtain ⟨hh,hhy,hlink⟩:=hL.yld _ _ hEy
     obtain ⟨tm,σ,nx,nt⟩:=st
     simp only [b8K] at h
     split at h
     ·rename_i hmk
      split at h
      ·rename_i v σ' nx' pd hrun
       simp only [m7,a3n] at h
       refine ⟨_,h,fun KP hKP=>?_⟩
       simp only [hhy,hgd,hbb,b8J,hmk]
       refine hlink _ _ _ _ _ _ _ _ hrun ?_
       simp only [m7,W8,G4]
       exact hKP
      ·cases h
     ·cases h
    ·cases h
   ·cases h
  ·rename_i hne
   split at h
   ·rename_i g a b' hca
    split at h
    ·rename_i hE hEi
     obtain ⟨hh,hhi,hlink⟩:=hL.inl _ _ hEi
     have inlined:b2S hE (a++args.map (st.ev G)++b') r.dst st K=some b→∃ st',K st'=some b∧∀ KP:St→Prop,KP st'→b2h hh (a++args.map (st.ev G)++b') r.dst st KP:=by
      intro h
      obtain ⟨tm,σ,nx,nt⟩:=st
      simp only [b2S] at h
      split at h
      ·rename_i v σ' nx' hrun
       simp only [a3n] at h
       refine ⟨_,h,fun KP hKP=>?_⟩
       simp only [b2h]
       refine hlink _ _ _ _ _ _ _ hrun ?_
       simp only [G4]
       exact hKP
      ·cases h
     split at h
     ·rename_i hgd
      obtain ⟨st',h1,h2⟩:=inlined h
      refine ⟨st',h1,fun KP hKP=>?_⟩
      split
      ·rename_i y hy;exact absurd hy (hne y)
      ·simp only [hca,hhi,hgd]
       exact h2 KP hKP
     ·rename_i t want hgd
      split at h
      ·rename_i hon
       obtain ⟨st',h1,h2⟩:=inlined h
       refine ⟨st',h1,fun KP hKP=>?_⟩
       split
       ·rename_i y hy;exact absurd hy (hne y)
       ·simp only [hca,hhi,hgd,hon]
        exact h2 KP hKP
      ·rename_i hon
       obtain ⟨st',h1,h2⟩:=plain h
       refine ⟨st',h1,fun KP hKP=>?_⟩
       split
       ·rename_i y hy;exact absurd hy (hne y)
       ·simp only [hca,hhi,hgd,hon]
        exact h2 KP hKP
    ·rename_i hEi
     obtain ⟨st',h1,h2⟩:=plain h
     refine ⟨st',h1,fun KP hKP=>?_⟩
     split
     ·rename_i y hy;exact absurd hy (hne y)
     ·simp only [hca,hL.b6x _ hEi]
      exact h2 KP hKP
   ·rename_i hca
    obtain ⟨st',h1,h2⟩:=plain h
    refine ⟨st',h1,fun KP hKP=>?_⟩
    split
    ·rename_i y hy;exact absurd hy (hne y)
    ·simp only [hca]
     exact h2 KP hKP
 ·rename_i hno
  obtain ⟨st',h1,h2⟩:=plain h
  refine ⟨st',h1,fun KP hKP=>?_⟩
  split
  ·rename_i f args hop;exact absurd hop (hno f args)
  ·exact h2 KP hKP
theorem a9z {β:Type} {EE:b1E} {E:Env} (hL:a4w P G EE E) {b:β}:∀ (l:List p8) (nm:Nat) (st:St) (K:St→Option β),b6y G EE l nm st K=some b→
 ∃ st',K st'=some b∧∀ KP:St→Prop,KP st'→a6L G (l9 P G) E l nm st KP
 | [],nm,st,K,h=>⟨st,h,fun KP hKP=>hKP⟩
 | r::l,nm,st,K,h=>by
   simp only [b6y,m7,c0N] at h
   obtain ⟨st₁,h1,h2⟩:=b4s hL h
   obtain ⟨st₂,h3,h4⟩:=a9z hL l _ _ _ h1
   exact ⟨st₂,h3,fun KP hKP=>by simp only [a6L,m7];exact h2 _ (h4 KP hKP)⟩
theorem a4c {fu:Nat}:∀ (rc:RC) (G5:Bool) (EE:b1E) (E:Env),a4w P G EE E→∀ (st:St) (e:Ex) (st':St),evC G fu rc G5 EE st=some (e,st')→∀ Q:Ex→St→Prop,Q e st'→aw G (l9 P G) rc G5 E Q st:=by
 intro rc
 induction rc with
 | skip=>intro G5 EE E hL st e st' h Q hQ;simp only [evC] at h;cases h;exact hQ
 | b9 ops draw=>
   intro G5 EE E hL st e st' h Q hQ
   obtain ⟨tm,σ,nx,nt⟩:=st
   simp only [evC,m7] at h
   simp only [aw,m7]
   cases draw with
   | true=>
     obtain ⟨st₁,h1,h2⟩:=b1j hL.call ops nx [] _ _ (fun i j x r _ hx=>by simp at hx) h
     cases h1
     exact h2 _ hQ
   | false=>
     obtain ⟨st₁,h1,h2⟩:=a9z hL _ _ _ _ h
     cases h1
     exact h2 _ hQ
 | seq a b iha ihb=>
   intro G5 EE E hL st e st' h Q hQ
   simp only [evC] at h
   simp only [aw]
   split at h
   ·rename_i s₁ hs₁
    exact iha G5 EE E hL st _ _ hs₁ _ (ihb G5 EE E hL s₁ e st' h Q hQ)
   ·rename_i hne
    refine iha G5 EE E hL st e st' h _ ?_
    cases e with
    | normal=>exact absurd h (hne st')
    | exit i=>exact hQ
    | ret=>exact hQ
 | cond c a b iha ihb=>
   intro G5 EE E hL st e st' h Q hQ
   simp only [evC,b0G] at h
   simp only [aw,b4h]
   split at h
   ·rename_i x hx
    rw [hx]
    cases x
    ·exact ihb G5 EE E hL st e st' h Q hQ
    ·exact iha G5 EE E hL st e st' h Q hQ
   ·cases h
 | block id b ih=>
   intro G5 EE E hL st e st' h Q hQ
   simp only [evC] at h
   simp only [aw]
   split at h
   ·rename_i i s₁ hs₁
    refine ih G5 EE E hL st _ _ hs₁ _ ?_
    simp only [Ex.inBlock]
    split at h <;>cases h
    ·rename_i hi;simp only [hi];exact hQ
    ·rename_i hi;simp only [hi];exact hQ
   ·rename_i hne
    refine ih G5 EE E hL st e st' h _ ?_
    cases e with
    | normal=>exact hQ
    | exit i=>exact absurd h (hne i st')
    | ret=>exact hQ
 | loop live b ih=>
   intro G5 EE E hL st e st' h Q hQ
   simp only [evC] at h
   simp only [aw]
   intro X hX _
   have gen:∀ (n:Nat) (s:St),b4A live G5 (fun s=>evC G fu b G5 EE s) n s=some (e,st')→X s:=by
    intro n
    induction n with
    | zero=>intro s h;simp [b4A] at h
    | succ n ihn=>
      intro s h
      refine hX s ?_
      simp only [b4A] at h
      cases G5 with
      | true=>
        simp only [a6b] at h ⊢
        split at h
        ·rename_i s₁ hs₁
         exact ih true EE E hL _ _ _ hs₁ _ (ihn s₁ h)
        ·rename_i hne
         refine ih true EE E hL _ _ _ h _ ?_
         cases e with
         | normal=>exact absurd h (hne st')
         | exit i=>exact hQ
         | ret=>exact hQ
      | false=>
        simp only at h ⊢
        split at h
        ·rename_i s₁ hs₁
         exact ih false EE E hL _ _ _ hs₁ _ (ihn s₁ h)
        ·rename_i hne
         refine ih false EE E hL _ _ _ h _ ?_
         cases e with
         | normal=>exact absurd h (hne st')
         | exit i=>exact hQ
         | ret=>exact hQ
   exact gen _ _ h
 | rng f ps a b iha ihb=>
   intro G5 EE E hL st e st' h Q hQ
   obtain ⟨tm,σ,nx,nt⟩:=st
   simp only [evC,b0G] at h
   simp only [aw]
   split at h
   ·rename_i g xs ys hca
    simp only [hca]
    split at h
    ·rename_i it hit
     obtain ⟨it',hit',hlink⟩:=hL.itr _ _ hit
     simp only [hit',m7] at h ⊢
     split at h
     ·rename_i r hr
      obtain ⟨v,σ',nx'⟩:=r
      have hL':a4w P G ⟨EE.inl,fun _=>none,none,EE.call⟩ ⟨E.inl,fun _=>none,none,none⟩:=⟨hL.inl,hL.b6x,(fun _ _ h=>by cases h),(fun _ _ h=>by cases h),hL.call⟩
      refine hlink _ _ _ ?_ _ _ _ _ _ _ _ hr ?_
      ·intro args σ₁ nx₁ v σ₂ nx₂ pd K hrun hK
       dsimp only at hrun ⊢
       split at hrun
       ·rename_i hlen
        simp only [hlen]
        rw [b1x] at hrun ⊢
        split at hrun
        ·rename_i s₁ hs₁
         refine iha false _ _ hL' _ _ _ hs₁ _ ?_
         simp only [Ex.then]
         split at hrun
         ·rename_i e₂ s₂ hs₂
          refine ihb false _ _ hL' _ _ _ hs₂ _ ?_
          obtain ⟨tm₂,σ₃,nx₃,nt₃⟩:=s₂
          cases e₂ <;>simp only [c4t] at hrun <;>cases hrun <;>exact hK
         ·cases hrun
        ·cases hrun
       ·cases hrun
      ·unfold c2y at h
       unfold c2z
       split at h
       ·rename_i heq;cases heq;cases h;exact hQ
       ·rename_i heq;cases heq;cases h;exact hQ
       ·rename_i heq;cases heq;cases h;exact hQ
       ·cases h
     ·cases h
    ·cases h
   ·cases h
 | exit id=>intro G5 EE E hL st e st' h Q hQ;simp only [evC] at h;cases h;exact hQ
 | scope b ih=>intro G5 EE E hL st e st' h Q hQ;simp only [evC] at h;exact ih G5 EE E hL st e st' h Q hQ
 | ret=>intro G5 EE E hL st e st' h Q hQ;simp only [evC] at h;cases h;exact hQ
theorem b2n (hm:P.follows .mixedOrders=true) {kn:Nat→List PV→Option (Own × PV)} (hkn:∀ g ps own r,kn g ps=some (own,r)→l9 P G g ps own r) {ext:Nat→Option a3t} (hext:a5t P G fun g=>(ext g).map b0H) {tab A0 a1T a1U:Nat→Option x4} (htab:∀ g c,tab g=some c→i5 P g c=true) (htabI:∀ g c,A0 g=some c→a0k P g c=true) (htabC:∀ g c,a1T g=some c→i5 P g c=true) (htabO:∀ g c,a1U g=some c→i5 P g c=true) {fu:Nat}:
 ∀ d,a4w P G (a4O G kn ext tab A0 a1T a1U fu d) (L8 G (l9 P G) ext tab A0 d)
 | 0=>⟨(fun _ _ h=>by cases h),fun _ _=>rfl,(fun _ _ h=>by cases h),(fun _ _ h=>by cases h),(fun _ _ _ _ h=>by cases h)⟩
 | d+1=>by
   have ih:=b2n hm hkn hext htab htabI htabC htabO (fu:=fu) d
   refine ⟨fun g hE h=>?_,fun g h=>?_,fun g it h=>?_,(fun _ _ h=>by cases h),fun g ps own r h=>?_⟩
   ·simp only [a4O] at h
    simp only [L8]
    cases hx:ext g with
    | some r=>
      rw [hx] at h
      simp only at h
      cases h
      exact ⟨_,rfl,fun args σ nx v σ' nx' K hr hK=>by simp only [b0H,hr];exact hK⟩
    | none=>
      rw [hx] at h
      simp only at h ⊢
      split at h
      ·rename_i c hc
       cases h
       rw [hc]
       refine ⟨_,rfl,fun args σ nx v σ' nx' K hr hK=>?_⟩
       dsimp only at hr ⊢
       split at hr
       ·rename_i hlen
        simp only [hlen]
        rw [a2o] at hr ⊢
        split at hr
        ·rename_i r hr'
         obtain ⟨e,tm,σ₁,nx₁,nt⟩:=r
         have hL0:a4w P G (a4O G kn ext tab A0 a1T a1U fu d) ⟨(L8 G (l9 P G) ext tab A0 d).inl,(L8 G (l9 P G) ext tab A0 d).itr,none,some nx⟩:=
          ⟨ih.inl,ih.b6x,ih.itr,fun b h e=>by
           obtain ⟨_,e',_⟩:=ih.yld b h e
           cases d <;>simp [L8] at e',ih.call⟩
         refine a4c _ _ _ _ hL0 _ _ _ hr' _ ?_
         cases e with
         | exit i=>simp [b9x] at hr
         | _=>
           simp only [b9x] at hr
           simp only [b7M]
           split at hr
           ·rename_i vs hvs
            simp only [hvs,H2] at hr ⊢
            cases hr
            exact hK
           ·cases hr
        ·cases hr
       ·cases hr
      ·cases h
   ·simp only [a4O] at h
    simp only [L8]
    cases hx:ext g with
    | some r=>rw [hx] at h;cases h
    | none=>
      rw [hx] at h
      simp only at h ⊢
      split at h
      ·cases h
      ·rename_i hc;rw [hc]
   ·simp only [a4O] at h
    simp only [L8]
    split at h
    ·rename_i c hc
     cases h
     rw [hc]
     refine ⟨_,rfl,fun b hE hh hY args σ nx v σ' nx' K hr hK=>?_⟩
     dsimp only at hr ⊢
     split at hr
     ·rename_i hlen
      simp only [hlen]
      rw [a2o] at hr ⊢
      rw [W8]
      split at hr
      ·rename_i r hr'
       obtain ⟨e,tm,σ₁,nx₁,nt⟩:=r
       have hL':a4w P G ⟨(a4O G kn ext tab A0 a1T a1U fu d).inl,(a4O G kn ext tab A0 a1T a1U fu d).itr,some (b,hE),(a4O G kn ext tab A0 a1T a1U fu d).call⟩ ⟨(L8 G (l9 P G) ext tab A0 d).inl,(L8 G (l9 P G) ext tab A0 d).itr,some (b,hh),some nx⟩:=
        ⟨ih.inl,ih.b6x,ih.itr,fun b' h' e=>by cases e;exact ⟨hh,rfl,hY⟩,ih.call⟩
       refine a4c _ _ _ _ hL' _ _ _ hr' _ ?_
       cases e with
       | exit i=>simp [b9y] at hr
       | _=>
         simp only [b9y,H2] at hr
         simp only [c4K,H2]
         cases hr
         exact hK
      ·cases hr
     ·cases hr
    ·cases h
   ·simp only [a4O] at h
    cases hk:kn g ps with
    | some p0=>rw [hk] at h;simp only at h;cases h;exact hkn g ps _ _ hk
    | none=>
    rw [hk] at h
    simp only at h
    split at h
    ·rename_i c hc
     split at h
     ·rename_i hlen
      rw [beq_iff_eq] at hlen
      rw [V0] at h
      split at h
      ·rename_i r' hr'
       obtain ⟨e,st⟩:=r'
       split at h
       ·rename_i p hp
        cases h
        refine b2C (c:=c) hm (htabC g c hc) hext htab htabI (d:=d) hlen ?_
        simp only [fnW,V0]
        refine a4c _ _ _ _ ih _ _ _ hr' _ ?_
        cases e with
        | exit i=>simp [b9A] at hp
        | _=>
          simp only [b9A] at hp
          simp only [c4M]
          split at hp
          ·rename_i vs hvs
           simp only [hvs]
           split at hp
           ·rename_i p' m hp'
            simp only [hp']
            cases hp
            rfl
           ·cases hp
          ·cases hp
       ·cases h
      ·cases h
     ·cases h
    ·split at h
     ·rename_i c hc
      split at h
      ·rename_i hlen
       rw [beq_iff_eq] at hlen
       rw [V0] at h
       split at h
       ·rename_i r' hr'
        obtain ⟨e,st⟩:=r'
        cases e with
        | exit i=>simp [b9z] at h
        | _=>
          simp only [b9z] at h
          split at h
          ·rename_i b n hvs
           split at h
           ·rename_i es rows m hf
            split at h
            ·rename_i hn
             rw [beq_iff_eq] at hn
             subst hn
             cases h
             refine b2B (c:=c) hm (htabO g c hc) hext htab htabI (d:=d) hlen ?_
             simp only [fnO,V0]
             exact a4c _ _ _ _ ih _ _ _ hr' _ ⟨b,m,hvs,hf⟩
            ·cases h
           ·cases h
          ·rename_i b n kd i hvs
           split at h
           ·rename_i es rows m hf
            split at h
            ·rename_i hn
             rw [beq_iff_eq] at hn
             subst hn
             cases h
             refine b5x (c:=c) hm (htabO g c hc) hext htab htabI (d:=d) hlen ?_
             simp only [c3k,V0]
             exact a4c _ _ _ _ ih _ _ _ hr' _ ⟨b,m,hvs,hf⟩
            ·cases h
           ·cases h
          ·cases h
       ·cases h
      ·cases h
     ·cases h
theorem a9b (hm:P.follows .mixedOrders=true) {kn:Nat→List PV→Option (Own × PV)} (hkn:∀ g ps own r,kn g ps=some (own,r)→l9 P G g ps own r) {ext:Nat→Option a3t} (hext:a5t P G fun g=>(ext g).map b0H) {tab A0 a1T a1U:Nat→Option x4} (htab:∀ g c,tab g=some c→i5 P g c=true) (htabI:∀ g c,A0 g=some c→a0k P g c=true) (htabC:∀ g c,a1T g=some c→i5 P g c=true) (htabO:∀ g c,a1U g=some c→i5 P g c=true) {fu d g:Nat} {ps:List PV} {own:Own} {r:PV}
 (h:(a4O G kn ext tab A0 a1T a1U fu d).call g ps=some (own,r)):l9 P G g ps own r:=(b2n hm hkn hext htab htabI htabC htabO d).call g ps own r h
end
end Go.Ab
namespace Go.Ab
inductive TF where
 | nil
 | leaf (g:Nat) (c:x4)
 | node (l r:TF)
def TF.get (n0:Nat):TF→Nat→Option x4
 | .leaf g c,_=>match g==n0 with | true=>some c | false=>none
 | .node l r,n=>match n % 2 with
   | 0=>TF.get n0 l (n / 2)
   | _=>TF.get n0 r (n / 2)
 | .nil,_=>none
def TF.fn (t:TF) (n:Nat):Option x4:=TF.get n t n
def TF.all (p:Nat→x4→Bool):TF→Bool
 | .nil=>true
 | .leaf g c=>p g c
 | .node l r=>TF.all p l&&TF.all p r
theorem TF.b3f {p:Nat→x4→Bool} {n0:Nat} {c:x4}:∀ (t:TF) (n:Nat),t.all p=true→TF.get n0 t n=some c→p n0 c=true
 | .nil,n,_,h=>by simp [TF.get] at h
 | .leaf g c',n,ha,h=>by
   simp only [TF.get] at h
   split at h
   ·rename_i hg
    cases h
    rw [beq_iff_eq] at hg
    subst hg
    exact ha
   ·cases h
 | .node l r,n,ha,h=>by
   simp only [TF.all,Bool.and_eq_true] at ha
   simp only [TF.get] at h
   split at h
   ·exact TF.b3f l _ ha.1 h
   ·exact TF.b3f r _ ha.2 h
theorem TF.i3 {p:Nat→x4→Bool} {t:TF} (ha:t.all p=true) (g:Nat) (c:x4) (h:t.fn g=some c):p g c=true:=TF.b3f t g ha h
end Go.Ab
namespace Go.Ab
open Go.RowKit
theorem B7.congr {B:Nat} {w:World} {I:y8} {ι:Nat→Option Nat} {σ σ':b8} {D:Nat→Prop} (hs:B7 B w I ι σ D) (he:∀ b,find σ' b=find σ b):B7 B w I ι σ' D∧v9 w I ι σ D w I ι σ' D:=by
 have hL:v9 w I ι σ D w I ι σ' D:=⟨⟨fun _ _ _ hi hx=>⟨hx,hi⟩,fun _ h=>h,fun b o' _ ho=>by rw [he] at ho;exact ⟨o',ho,rfl,rfl,rfl⟩,fun _ c _ fz h=>⟨c,fz,h,rfl⟩,fun _ _=>rfl⟩,fun _ _ _ h=>h⟩
 exact ⟨⟨hs.bnd,fun b o h'=>hs.dom b o (by rw [← he];exact h'),fun b b' o o' r h₁ h₂=>hs.inj b b' o o' r (by rw [← he];exact h₁) (by rw [← he];exact h₂),
  fun b o r h'=>hs.ge b o r (by rw [← he];exact h'),fun b o r k h'=>hs.sep b o r k (by rw [← he];exact h'),
  fun b o h'=>(hs.obj b o (by rw [← he];exact h')).mono hL rfl fun _ _=>rfl⟩,hL⟩
theorem u7 {G:Gl} {Ok:Nat→List PV→Own→PV→Prop} {E:Env} {r:p8} {l:List p8} {nm:Nat} {st:St} {K:St→Prop} (hg:r.guard=none) (hc:∀ f args,r.op≠ .call f args) {e:m8} (he:step st.σ nm (st.ev G) r.op=some e)
 (h:a6L G Ok E l (nm+j4) (u9 st r.dst e.v (j7 st.σ e.up)) K):a6L G Ok E (r::l) nm st K:=by
 simp only [a6L,m7]
 unfold a8Q
 split
 ·rename_i f args hop;exact absurd hop (hc f args)
 ·unfold a7p
  rw [hg]
  simp only
  unfold opW
  split
  ·rename_i f args hop;exact absurd hop (hc f args)
  ·obtain ⟨tm,σ,nx,nt⟩:=st
   simp only at he
   simp only [he,H7,G4]
   exact h
theorem a2P {G:Gl} {Ok:Nat→List PV→Own→PV→Prop} {E:Env} {nm:Nat} {st:St} {K:St→Prop}:a6L G Ok E [] nm st K=K st:=rfl
theorem b5p {t:T} {n m:Nat} {v:AV} (hn:n<1024) (hm:m<1024) (h:m≠n):(t.set e9 n v).get e9 m=t.get e9 m:=by
 rw [I3,if_neg]
 have e1:m % 2 ^ e9=m:=Nat.mod_eq_of_lt hm
 have e2:n % 2 ^ e9=n:=Nat.mod_eq_of_lt hn
 rw [e1,e2];exact h
theorem a4S {t:T} {n:Nat} {v:AV}:(t.set e9 n v).get e9 n=v:=by rw [I3,if_pos rfl]
end Go.Ab
