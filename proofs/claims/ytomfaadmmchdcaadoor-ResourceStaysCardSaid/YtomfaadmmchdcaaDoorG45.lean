/- A part of the proof: the texts AbOe, AbOa. Under: nothing. -/
import Derived.Test.YtomfaadmmchdcaaDoorG04
import Derived.Test.YtomfaadmmchdcaaDoorG05
set_option linter.unusedVariables false
namespace Go.Ab
open Go.RowKit
theorem c3j {B:Nat} {w:World} {I:y3} (hb:∀ r k,I r k→r<w.heap.size) (es nm:Nat):
 A7 B w I (fun _=>none) [(nm,some (.arr es [] false))] (Names nm)∧i5 w I (fun _=>none) [(nm,some (.arr es [] false))] (Names nm) (.slice none 0 0) (.own nm 0 0):=by
 have key:∀ b o,find [(nm,some (e6.arr es [] false))] b=some o→b=nm∧o= .arr es [] false:=by
  intro b o h
  by_cases e:b=nm
  ·subst e
   simp [find] at h
   exact ⟨rfl,h.symm⟩
  ·have:(nm==b)=false:=by simpa using fun h=>e h.symm
   simp [find,this] at h
 have hn:Names nm nm:=⟨Nat.le_refl _,by unfold j4;omega⟩
 refine ⟨⟨hb,fun b o h=>?_,fun b b' o o' r _ _ h=>(by cases h),fun b o r _ h=>(by cases h),fun b o r k _ h=>(by cases h),fun b o h=>?_⟩,.own hn rfl fun o h=>?_⟩
 ·obtain ⟨rfl, -⟩:=key b o h;exact hn
 ·obtain ⟨rfl,rfl⟩:=key b o h;exact .inl ⟨rfl,rfl⟩
 ·obtain ⟨-,rfl⟩:=key _ o h
  exact ⟨none,0,rfl,Nat.le_refl _,⟨Nat.le_refl _,Nat.le_refl _⟩,.inl ⟨rfl,rfl⟩⟩
end Go.Ab
namespace Go.Ab
open Go.RowKit
set_option linter.unusedVariables false
def c6t (G:Gl) (st:St) (rs:List a6a) (es:Nat) (rows:List (List PV)) (rest:List PV):Prop:=
 ∃ (av:AV) (cells:List AV) (rest0:List PV) (M:List Nat),R5 G st rs=some [.agg (av::cells)]∧(∃ m,a5Z (pub st.σ 8) cells=some (rest0,m)∧∀ x ∈ m,x ∈ M)∧N8 rest0 rest∧
   ((∃ b m,av= .own b 0 rows.length∧a0W st.σ b=some (es,rows,m)∧(∀ x ∈ m,x ∈ M)∧b ∉ M)∨∃ e',av= .emp e'∧rows=[])
def c9b (G:Gl) (rs:List a6a) (es:Nat) (rows:List (List PV)) (rest:List PV) (e:Ex) (st:St):Prop:=
 match e with
 | .exit _=>False
 | _=>c6t G st rs es rows rest
def fnA (G:Gl) (Ok:Nat→List PV→Own→PV→Prop) (ext:Nat→Option a2f) (tab x8:Nat→Option u0) (d:Nat) (f:u0) (args:List PV) (es:Nat) (rows:List (List PV)) (rest:List PV):Prop:=
 a7n 0 args .nil fun tm=>aw G Ok f.body true (I3 G Ok ext tab x8 d) (c9b G f.res es rows rest) {tm:=tm,σ:=[],nx:=0,nt:=f.ntmps}
theorem a7x:∀ (rest:List PV) (nm j:Nat),a1V [(0,0)] 0 nm (j+1) rest=(rest.map .pv,[])
 | [],_,_=>rfl
 | p::l,nm,j=>by
   have h:=a7x l nm (j+1)
   have ho:b6E [(0,0)] 0 (j+1)=false:=by simp [b6E]
   unfold a1V
   rw [ho,h]
   cases p <;>rfl
theorem b6c (nm es:Nat) (rows:List (List PV)) (rest:List PV):imp [(0,0)] nm (.agg (.sl es rows::rest))=(.agg (.own nm 0 rows.length::rest.map .pv),[(nm,some (.arr es rows false))]):=by
 show b4Q [(0,0)] 0 nm (.agg (.sl es rows::rest))=_
 unfold b4Q
 show (let (a,b):=a1V [(0,0)] 0 nm 0 (.sl es rows::rest);((.agg a:AV),b))=_
 unfold a1V
 simp only [b6E,a7x]
 rfl
theorem c1y {B:Nat} {w:World} {I:y3} {ι:Nat→Option Nat} {σ:d6} {D:Nat→Prop} {b es:Nat} {rows:List (List PV)} {m M:List Nat} {v:Value} (hM:∀ x ∈ m,x ∈ M) (hbM:b ∉ M) (hs:A7 B w I ι σ D) (ho:a0W σ b=some (es,rows,m)) (hrep:i5 w I ι σ D v (.own b 0 rows.length)) (nm:Nat):
 A7 B w (E6 I ι σ M) (fun x=>if x=nm then ι b else none) [(nm,some (.arr es rows false))] (Names nm)∧i5 w (E6 I ι σ M) (fun x=>if x=nm then ι b else none) [(nm,some (.arr es rows false))] (Names nm) v (.own nm 0 rows.length):=by
 obtain ⟨hs',hL'⟩:=hs.C8 M
 have main:∃ o,find σ b=some o∧find (C0 σ M) b=some o∧o.M9=false∧o.H6=false∧o.es=es∧o.len=rows.length∧
  ∀ (i:Nat) (rowA:List AV) (row:List PV),o.row? i=some rowA→rows[i]?=some row→rowA.length=row.length∧∀ (j:Nat) (x:Value) (a:AV) (p:PV),rowA[j]?=some a→row[j]?=some p→i5 w I ι σ D x a→B5 w (E6 I ι σ M) x p:=by
  unfold a0W at ho
  split at ho
  ·rename_i es' rows' hf
   cases ho
   refine ⟨_,hf,by rw [O4,hf];simp [hbM],rfl,rfl,rfl,rfl,fun i rowA row h1 h2=>?_⟩
   simp only [e6.row?,h2] at h1
   cases h1
   refine ⟨by simp,fun j x a p ha hp hr=>?_⟩
   rw [List.getElem?_map,hp] at ha
   cases ha
   cases hr with | pv h=>exact h.mono a5x
  ·rename_i es' rowsA hf
   split at ho
   ·rename_i rows' m' hp
    split at ho
    ·cases ho
    ·rename_i hnm
     cases ho
     obtain ⟨e1,e2⟩:=a9s (a5D (M:=M) hs 8) _ _ _ hp hM
     refine ⟨_,hf,?_,rfl,rfl,rfl,e1,fun i rowA row h1 h2=>?_⟩
     ·rw [O4,hf];simp [hbM]
     ·exact (e2 i rowA row h1 h2).imp id fun h j x a p ha hp hr=>h j a p x ha hp hr
   ·cases ho
  ·cases ho
 obtain ⟨o,hf,hf',hsl,hmap,hes,hlen,hcell⟩:=main
 have key:∀ b' o',find [(nm,some (e6.arr es rows false))] b'=some o'→b'=nm∧o'= .arr es rows false:=by
  intro b' o' h
  simp only [find] at h
  split at h
  ·rename_i hb;rw [beq_iff_eq] at hb;cases h;exact ⟨hb.symm,rfl⟩
  ·cases h
 have hrows:B6 w I ι σ D b o:=by
  have:=hs.obj b o hf
  cases o with
  | map ents=>simp [e6.H6] at hmap
  | arr e r sl=>exact this
  | box e r sl=>exact this
 refine ⟨⟨hs'.bnd,fun b' o' h=>?_,fun b₁ b₂ o₁ o₂ r h₁ h₂ _ _=>(key b₁ o₁ h₁).1.trans (key b₂ o₂ h₂).1.symm,fun b' o' r h e=>?_,fun b' o' r k h e hi=>?_,fun b' o' h=>?_⟩,?_⟩
 ·obtain ⟨rfl,_⟩:=key b' o' h;exact ⟨Nat.le_refl _,by simp [j4]⟩
 ·obtain ⟨rfl,rfl⟩:=key b' o' h
  rw [if_pos rfl] at e
  exact hs.ge b o r hf e
 ·obtain ⟨rfl,rfl⟩:=key b' o' h
  rw [if_pos rfl] at e
  have:=(hs'.sep b o r k hf' e hi).1
  rw [hsl] at this;cases this
 ·obtain ⟨rfl,rfl⟩:=key b' o' h
  rcases hrows with ⟨h1,h2⟩ | ⟨r,cc,T,fz,h1,h2,h3,h4,h5⟩
  ·exact .inl ⟨by simp only [if_true];exact h1,by simp only [e6.len];omega⟩
  ·refine .inr ⟨r,cc,T,fz,by simp only [if_true];exact h1,h2,h3,by simp only [e6.len,e6.es];rw [← hes,← hlen];exact h4,fun i row hrow=>?_⟩
   simp only [e6.row?] at hrow
   split at hrow
   ·rename_i r0 hr0
    cases hrow
    have hi:i<o.len:=by rw [hlen];exact (List.getElem?_eq_some_iff.1 hr0).1
    obtain ⟨rowA,hrowA⟩:∃ rowA,o.row? i=some rowA:=by
     cases o with
     | map ents=>simp [e6.H6] at hmap
     | arr e r sl=>simp only [e6.len] at hi;exact ⟨r[i].map .pv,by simp only [e6.row?,List.getElem?_eq_getElem hi]⟩
     | box e r sl=>simp only [e6.len] at hi;exact ⟨_,by simp only [e6.row?];exact List.getElem?_eq_getElem hi⟩
    obtain ⟨l1,l2⟩:=hcell i rowA r0 hrowA hr0
    obtain ⟨k1,k2⟩:=h5 i rowA hrowA
    refine ⟨by simp only [List.length_map,e6.es];rw [← l1,k1,hes],fun j v' hv'=>?_⟩
    rw [List.getElem?_map,Option.map_eq_some_iff] at hv'
    obtain ⟨p,hp,rfl⟩:=hv'
    have hj:j<rowA.length:=by rw [l1];exact (List.getElem?_eq_some_iff.1 hp).1
    obtain ⟨x,hx1,hx2,hx3⟩:=k2 j _ (List.getElem?_eq_getElem hj)
    exact ⟨x,by simp only [e6.es];rw [← hes];exact hx1,hx2,.pv (l2 j x _ p (List.getElem?_eq_getElem hj) hp hx3)⟩
   ·cases hrow
 ·cases hrep with
  | own hD hone hv=>
    refine .own ⟨Nat.le_refl _,by simp [j4]⟩ hone fun o' ho'=>?_
    simp only [find,beq_self_eq_true] at ho'
    cases ho'
    obtain ⟨p,cap,k1,k2,k3,k4⟩:=hv _ hf
    refine ⟨p,cap,k1,by simp only [e6.len];omega,⟨k3.1,by have:=k3.2;simp only [e6.len];omega⟩,k4.imp id fun ⟨r,cc,T,fz,g1,g2,g3,g4⟩=>⟨r,cc,T,fz,by simp only [if_true];exact g1,by simp only [e6.es];rw [← hes];exact g2,g3,by simp only [e6.es];rw [← hes];exact g4⟩⟩
theorem b9J {P:Program} {G:Gl} {g:Nat} {c:u0} {ps:List PV} {es:Nat} {rows:List (List PV)} {rest:List PV} (hm:P.follows .mixedOrders=true) (hk:f0 P g c=true) {ext:Nat→Option a2f} (hext:a3C P G fun g=>(ext g).map a5R) {tab x8:Nat→Option u0} (htab:∀ g c,tab g=some c→f0 P g c=true) (htabI:∀ g c,x8 g=some c→a0F P g c=true) {d:Nat}
 (hl:ps.length=c.nparams) (h:fnA G (l8 P G) ext tab x8 d c ps es rows rest):l8 P G g ps [(0,0)] (.agg (.sl es rows::rest)):=by
 obtain ⟨fn,code,hf'⟩:=Z4 hk
 intro w I vs hbnd hglob hargs
 refine ⟨hf'.enter vs,callsIn_of_wp_marks hf'.func hf'.body trivial ?_⟩
 simp only [fnA,R7] at h
 rw [hf'.nt]
 have hcore:Core w.heap.size w I w I (fun _=>none) [] (fun _=>False):=⟨⟨hbnd,fun b o h=>by simp [find] at h,fun b b' o o' r h=>by simp [find] at h,fun b o r h=>by simp [find] at h,fun b o r k h=>by simp [find] at h,fun b o h=>by simp [find] at h⟩,
  Below.refl _ _,Nat.le_refl _,fun _ _ h=>h,fun _ _ _ h=>h⟩
 have hsim:=a1A (gs:=fun _ _=>False) (D0:=fun _=>True) (n0:=0) (a1W:=fun _ _=>False) (nx:=0) (as:=ps.map .pv) (vs:=vs) (nt:=c.ntmps) hcore (fun b h=>h.elim) hglob (by rw [List.length_map];exact hargs.1)
  (fun j x q hx hq=>by
   rw [List.getElem?_map,Option.map_eq_some_iff] at hq
   obtain ⟨p,hp,rfl⟩:=hq
   exact .pv (hargs.2 j x p hx hp)) (fun _ _ h=>h.elim) (fun b h=>h.elim) (Nat.le_refl _) (fun _ _ h=>h.elim) (by rw [List.length_map];have:=hf'.np;omega) (by rw [List.length_map];have:=hf'.np';omega)
 have hE:a2q P G (I3 G (l8 P G) ext tab x8 d) none w.heap.size w I Gh.top:=⟨(U3 hm hext htab htabI d).1,(U3 hm hext htab htabI d).2,(fun _ h=>by cases h),(fun b h e=>by cases d <;>simp [I3] at e),fun n h=>by cases d <;>simp [I3] at h⟩
 refine wpIn_mono (a3b (ro:=none) hE hm (fun _=>rfl) c.body code hf'.code _ _ _ _ h hsim) fun e a w' he=>?_
 have fin:∀ s,c6t G s c.res es rows rest→a1j P G w.heap.size w I .top c.ntmps s a w'→
  LeavesInM Fence.wide 0 P fn a.tmps (a2W w I [(0,0)] (.agg (.sl es rows::rest))) a.defers .returning w':=by
  intro s ⟨av,cells,rest0,M,hvs,⟨mm,hpub⟩,hle,hout⟩ ⟨_,_,I₁,ι,D,hx⟩
  obtain ⟨rs,m1,m2,m3⟩:=hx.dfs
  refine a0i (gh:=Gh.top) hf'.res hvs rs a.defers w' m1 m2 m3 hx fun w₂ v hx hrep=>?_
  have hrep:i5 w₂ I₁ ι s.σ D v (.agg (av::cells)):=hrep
  obtain ⟨hs', -⟩:=hx.core.v7.C8 M
  refine ⟨E6 I₁ ι s.σ M,hx.core.below,fun a k h=>.inl (hx.core.ext a k h),fun a k hlt h=>?_,fun nm=>?_⟩
  ·rcases h with h | ⟨b,o,_,hf,_,hr,_⟩
   ·exact hx.core.old a k hlt h
   ·have:=hx.core.v7.ge b o a hf hr;omega
  ·rw [b6c]
   show ∃ ι₁,A7 _ w₂ _ ι₁ [(nm,some (.arr es rows false))] _∧i5 w₂ _ ι₁ [(nm,some (.arr es rows false))] _ v (.agg (.own nm 0 rows.length::rest.map .pv))
   cases hrep with
   | agg hl hcs=>
     rename_i cs
     have hcells:∀ (j:Nat) (x:Value) (q:PV),cs[j+1]?=some x→rest[j]?=some q→B5 w₂ (E6 I₁ ι s.σ M) x q:=by
      intro j x q hxj hq
      obtain ⟨e1,e2⟩:=X6 (a5D (M:=M) hx.core.v7 8) _ _ _ hpub.1 hpub.2
      obtain ⟨p0,hp0⟩:∃ p0,rest0[j]?=some p0:=⟨_,List.getElem?_eq_getElem (by have:=hle.len;have:=(List.getElem?_eq_some_iff.1 hq).1;omega)⟩
      obtain ⟨c0,hc0⟩:∃ c0,cells[j]?=some c0:=⟨_,List.getElem?_eq_getElem (by have:=(List.getElem?_eq_some_iff.1 hp0).1;omega)⟩
      exact (e2 j c0 p0 x hc0 hp0 (hcs (j+1) x c0 hxj (by simpa using hc0))).le (hle.get j p0 q hp0 hq)
     have hlen:cs.size=rest.length+1:=by
      obtain ⟨e1,e2⟩:=X6 (a5D (M:=M) hx.core.v7 8) _ _ _ hpub.1 hpub.2
      have:=hle.len
      simp at hl;omega
     obtain ⟨x0,hx0⟩:∃ x0,cs[0]?=some x0:=⟨_,Array.getElem?_eq_getElem (by omega)⟩
     have h0:=hcs 0 x0 av hx0 rfl
     have fin2:∀ (ι₁:Nat→Option Nat),A7 w.heap.size w₂ (E6 I₁ ι s.σ M) ι₁ [(nm,some (.arr es rows false))] (Names nm)∧i5 w₂ (E6 I₁ ι s.σ M) ι₁ [(nm,some (.arr es rows false))] (Names nm) x0 (.own nm 0 rows.length)→
      ∃ ι₁,A7 w.heap.size w₂ (E6 I₁ ι s.σ M) ι₁ [(nm,some (.arr es rows false))] (Names nm)∧i5 w₂ (E6 I₁ ι s.σ M) ι₁ [(nm,some (.arr es rows false))] (Names nm) (.agg cs) (.agg (.own nm 0 rows.length::rest.map .pv)):=by
      intro ι₁ ⟨g1,g2⟩
      refine ⟨ι₁,g1,.agg (by simp;omega) fun j x q hxj hq=>?_⟩
      cases j with
      | zero=>
        rw [hx0] at hxj
        simp only [List.getElem?_cons_zero,Option.some.injEq] at hxj hq
        subst hxj;subst hq
        exact g2
      | succ j=>
        simp only [List.getElem?_cons_succ,List.getElem?_map,Option.map_eq_some_iff] at hq
        obtain ⟨p,hp,rfl⟩:=hq
        exact .pv (hcells j x p hxj hp)
     rcases hout with ⟨b,m,rfl,ho,hm,hb⟩ | ⟨e',rfl,rfl⟩
     ·exact fin2 _ (c1y hm hb hx.core.v7 ho h0 nm)
     ·have hv:x0= .slice none 0 0:=by cases h0;rfl
      subst hv
      exact fin2 _ (c3j hs'.bnd es nm)
 cases e with
 | normal=>obtain ⟨s,hq,hs⟩:=he;exact fin s hq hs
 | ret=>obtain ⟨s,hq,hs⟩:=he;exact fin s hq hs
 | exit i=>obtain ⟨s,hq,hs⟩:=he;exact hq.elim
 | goto l=>exact he.elim
 | panic ch=>exact he.elim
 | outgrown=>exact he.elim
end Go.Ab
namespace Go.Ab
open Go.RowKit
theorem c3e {P:Program} {G:Gl} {g:Nat} {ps:List PV} {es:Nat} {rows:List (List PV)} {rest rest':List PV} (h:l8 P G g ps [(0,0)] (.agg (.sl es rows::rest))) (hle:N8 rest rest'):l8 P G g ps [(0,0)] (.agg (.sl es rows::rest')):=by
 intro w I vs hb hg ha
 obtain ⟨h1,h2⟩:=h w I vs hb hg ha
 refine ⟨h1,h2.mono fun e w' hp=>?_⟩
 cases e with
 | returned v=>
   obtain ⟨I',k1,k2,k3,k4⟩:=hp
   refine ⟨I',k1,k2,k3,fun nm=>?_⟩
   obtain ⟨ι₁,g1,g2⟩:=k4 nm
   rw [b6c] at g1 g2 ⊢
   refine ⟨ι₁,g1,?_⟩
   have g2:i5 w' I' ι₁ (i9 [] [(nm,some (.arr es rows false))]) (Names nm) v (.agg (.own nm 0 rows.length::rest.map .pv)):=g2
   show i5 w' I' ι₁ _ (Names nm) v (.agg (.own nm 0 rows.length::rest'.map .pv))
   have hl:=hle.len
   cases g2 with
   | agg hs hc=>
     refine .agg (by simp at hs ⊢;omega) fun j x q hx hq=>?_
     cases j with
     | zero=>exact hc 0 x q hx hq
     | succ j=>
       simp only [List.getElem?_cons_succ,List.getElem?_map,Option.map_eq_some_iff] at hq
       obtain ⟨p',hp',rfl⟩:=hq
       obtain ⟨p,hp⟩:∃ p,rest[j]?=some p:=⟨_,List.getElem?_eq_getElem (by have:=(List.getElem?_eq_some_iff.1 hp').1;omega)⟩
       have:=hc (j+1) x (.pv p) hx (by simp [hp])
       cases this with
       | pv h=>exact .pv (h.le (hle.get j p p' hp hp'))
 | _=>exact hp
end Go.Ab
