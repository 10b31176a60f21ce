/- A part of the proof: the texts TdWd, AbIx, AbOe. Under: nothing. -/
import Derived.Test.YtngmifmcohmfmaaDoorG46
import Derived.Test.YtngmifmcohmfmaaDoorG05
import Derived.Test.YtngmifmcohmfmaaDoorG04
set_option linter.unusedVariables false
namespace Go.Ab.Td
set_option maxRecDepth 100000
set_option maxRecDepth 100000
open Go Go.Ab
variable {P:Program}
set_option linter.unusedSimpArgs false
attribute [local irreducible] f0
open Classical in
noncomputable def hOf (H:List (List PV)):List Cl:=if h:∃ h:List Cl,LeR H (h.map j6)∧H.length=h.length∧a3r h then Classical.choose h else []
theorem b7m {H:List (List PV)} (h:∃ h:List Cl,LeR H (h.map j6)∧H.length=h.length∧a3r h):LeR H ((hOf H).map j6)∧H.length=(hOf H).length∧a3r (hOf H):=by
 unfold hOf
 rw [dif_pos h]
 exact Classical.choose_spec h
theorem c0x {H:List (List PV)} {t:List Cl} {j:Nat} {row:List PV} (e:LeR H (t.map j6)) (hr:H[j]?=some row) (hk:kindOf row=3) (h2:j≤20000):fits t (dO (j:Int)):=by
 have hl:=e.len
 have hj:=(List.getElem?_eq_some_iff.1 hr).1
 obtain ⟨c,hc⟩:∃ c,t[j]?=some c:=⟨_,List.getElem?_eq_getElem (by rw [List.length_map] at hl;omega)⟩
 have q:=e.get j row (j6 c) hr (by rw [List.getElem?_map,hc];rfl)
 have k3:c.kind=3:=by
  cases q with
  | cons h t=>
    cases h with
    | refl=>exact hk
 refine ⟨?_,fun _=>⟨c,hc,k3,fun h=>absurd rfl h.1⟩⟩
 unfold Ob.right Ob.blank dO;simp;omega
theorem a9p {a b:Ob} (h:g8 a=g8 b):a=b:=by
 obtain ⟨_,_,_,_,_,_,_⟩:=a
 obtain ⟨_,_,_,_,_,_,_⟩:=b
 simp [g8] at h
 obtain ⟨rfl,rfl,rfl,rfl,rfl,rfl,rfl⟩:=h
 rfl
theorem c1V {ld:List Ob} {r:List (List PV)} (h:ld.map g8=S1 0::S1 1::r):∃ d,ld=dO 0::dO 1::d:=by
 cases ld with
 | nil=>cases h
 | cons a ld=>
   cases ld with
   | nil=>simp at h
   | cons b ld=>
     simp only [List.map_cons,List.cons.injEq] at h
     have e1:a=dO 0:=a9p h.1
     have e2:b=dO 1:=a9p h.2.1
     exact ⟨ld,by rw [e1,e2]⟩
theorem c8S {Z:Ob→Prop} {rr:List (List PV)} (h:∀ x ∈ rr,∃ o:Ob,x=g8 o∧Z o) (lo:List Ob) (e:rr=lo.map g8):∀ o ∈ lo,Z o:=by
 intro o ho
 obtain ⟨o2,h1,h2⟩:=h (g8 o) (by rw [e];exact List.mem_map_of_mem ho)
 rw [a9p h1];exact h2
theorem c9v {Z:Ob→Prop} {q:PV} {m:Nat} (h:SlR q m) (hF:SlF (fun r=>∃ o:Ob,r=g8 o∧Z o) q m):∃ l:List Ob,PV.le q (.sl 7 (l.map g8))∧l.length=m∧m≤1000∧(∀ o ∈ l,o.n<9223372036854775808)∧∀ o ∈ l,Z o:=by
 rcases h with ⟨rfl,rfl⟩ | ⟨rr,rfl,h1,h2,h3⟩
 ·exact ⟨[],.emp 7,rfl,by omega,by simp,by simp⟩
 ·obtain ⟨l,e,hl⟩:=c5T h3
  have hk:∀ x ∈ rr,∃ o:Ob,x=g8 o∧Z o:=by
   rcases hF with ⟨h, -⟩ | ⟨r2,h, -,hf⟩
   ·cases h
   ·simp only [PV.sl.injEq,true_and] at h
    subst h
    exact hf
  exact ⟨l,by rw [e];exact .refl _,by rw [e] at h1;simpa using h1,h2,hl,c8S hk l e⟩
set_option maxHeartbeats 2000000 in
theorem b8C (C:Laid P) (cells ops e8:List (List PV)) (hc:∀ r ∈ cells,a4U r) (ho:∀ r ∈ ops,a4U r) (hd:∀ r ∈ e8,∃ D,r=[.int .u8 D]∧0≤D∧D<256):
 ∃ s,(c4u s∧a3r s.heap∧(∀ o ∈ s.ops,o.kind≠12)∧(∀ o ∈ s.ops,fits s.heap o)∧(∀ o ∈ s.e8,fits s.heap o)∧∃ d,s.e8=dO 0::dO 1::d)∧j5 P G F2 [.agg [.sl 5 cells,.sl 5 ops,.sl 1 e8]] [] (aS s):=by
 obtain ⟨H,O,D,⟨hH,hI⟩,⟨m,hm,hO,hK⟩,hD,h4⟩:=b9a (fun H r=>∃ o:Ob,r=g8 o∧(o.kind≠12∧fits (hOf H) o)) (fun H=>∃ h,LeR H (h.map j6)∧H.length=h.length∧a3r h) (j5 P G) cells ops e8 ho hd (b8B C cells ops e8 hc) (fun K A B N S H a b n hH hI=>by
  obtain ⟨e,hl,tv⟩:=b7m hI
  generalize hh:hOf H=h at e hl tv
  obtain ⟨r,⟨f,fr⟩,h2⟩:=b7y C tv.1 e K A B N S a b n
  exact ⟨_,⟨b2j (h:=h) ⟨_,rfl,b2T tv.1 K A B N a b n,b9T h K A B N a n⟩,_,rfl,b9S h K A B N,b2T tv.1 K A B N a b n⟩,b0a (T4 C h tv.1.small K A B N S a b n) (.cons (.refl _) (.cons (b9P e) .nil))⟩) (fun H n hH hn=>c2N C H hH.all.1 hH.all.2 3 n hn)
 obtain ⟨e1,hn0,htv⟩:=b7m hI
 generalize hh:hOf H=t at e1 hn0 htv
 have h:=a7d C (a7M C) rfl h4
 have hn:t.length=H.length:=hn0.symm
 have ht:=htv.1
 obtain ⟨lo,e2,hlo,_,hob,hlk⟩:=c9v hO hK
 have hDt:∀ {rr:List (List PV)},(∀ r ∈ rr,∃ j:Int,r=S1 j∧0≤j∧j<H.length)→∃ l:List Ob,rr=l.map g8∧∀ o ∈ l,∃ j:Int,o=dO j∧0≤j∧j<H.length:=by
  intro rr
  induction rr with
  | nil=>exact fun _=>⟨[],rfl,by simp⟩
  | cons r rr ih=>
    intro hx
    obtain ⟨j,rfl,hj⟩:=hx r (by simp)
    obtain ⟨l,rfl,hl⟩:=ih fun y hy=>hx y (by simp [hy])
    refine ⟨dO j::l,rfl,?_⟩
    intro y hy
    rcases List.mem_cons.1 hy with rfl | hy
    ·exact ⟨j,rfl,hj⟩
    ·exact hl y hy
 obtain ⟨⟨d1,d2,d3⟩,⟨dr,hdr⟩,dk⟩:=hD
 obtain ⟨ld,rfl,hld⟩:=hDt d3
 have hdl:∀ o ∈ ld,fits t o:=by
  intro o ho
  obtain ⟨j,row,h1,h2,h3⟩:=dk (g8 o) (List.mem_map_of_mem ho)
  have eo:o=dO (j:Int):=a9p h1
  have hj:=(List.getElem?_eq_some_iff.1 h2).1
  subst eo
  exact c0x e1 h2 h3 (by have:=ht.len;omega)
 obtain ⟨ld2,hld2⟩:=c1V hdr
 refine ⟨mkS lo ld t,⟨⟨lo,ld,t,rfl,ht,by omega,hob,by simpa using d1,by simpa using d2,by rw [hn];exact hld⟩,htv,fun o ho=>(hlk o ho).1,fun o ho=>by have q:=(hlk o ho).2;rw [hh] at q;exact q,hdl,ld2,hld2⟩,b9U h ?_⟩
 refine q8 (.cons e2 (.cons (.refl _) (.cons (b9P e1) ?_)))
 exact .cons (.emp _) (.cons (.refl _) (.cons (.refl _) (.cons (.refl _) (.cons (.refl _) (.cons (.refl _) (.cons (.refl _) (.cons (.refl _) (.cons (.emp _) (.cons (.refl _) (.cons (.refl _) (.cons (.refl _) (.cons (.refl _) (.cons (.refl _) (.cons (.refl _) (.cons (.refl _) (.cons (.refl _) (.cons (.refl _) (.cons (.refl _) (.cons (.refl _) (.cons (.refl _) (.cons (.refl _) (.cons (.refl _) (.cons (.refl _) (.cons (.refl _) (.cons (.refl _) (.cons (.refl _) (.cons (.refl _) (.cons (.refl _) (.cons (.refl _) (.cons (.refl _) (.cons (.emp _) (.cons (.refl _) (.cons (.refl _) (.cons (.refl _) (.cons (.refl _) (.cons (.refl _) (.cons (.refl _) (.cons (.refl _) (.cons (.refl _) (.cons (.emp _) (.cons (.refl _) (.cons (.refl _) (.cons (.emp _) (.cons (.refl _) (.cons (.refl _) (.cons (.refl _) (.cons (.refl _) (.cons (.refl _) (.cons (.refl _) (.cons (.refl _) (.cons (.refl _) (.cons (.refl _) (.cons (.refl _) (.cons (.refl _) (.cons (.refl _) (.cons (.refl _) (.cons (.refl _) (.cons (.refl _) (.cons (.emp _) (.cons (.emp _) (.cons (.emp _) (.cons (.refl _) (.cons (.refl _) (.nil))))))))))))))))))))))))))))))))))))))))))))))))))))))))))))))))
end Go.Ab.Td
namespace Go.Ab
set_option linter.unusedSimpArgs false
section
variable {σ:b7} {nm:Nat} {ev:RA→AV}
end
end Go.Ab
namespace Go.Ab
section
variable {σ:b7} {nm es:Nat} {ev:RA→AV}
theorem c3s {x:RA} {hi:Option RA} {b i n k:Nat} {o:e6} {h:Int} (hx:ev x= .own b i n) (hf:find σ b=some o) (hh:j7 ev n hi=some h) (hk:h=(k:Int)) (h3:i+k≤o.len) (he:o.es=es):
 step σ nm ev (.slice es x none hi none)=some {v:=.own b i k,rd:=[b]}:=by
 subst hk
 simp only [step,hx,AV.e,hf,hh,show j7 ev 0 none=some 0 from rfl,show j7 ev ((o.len:Int) - i) none=some ((o.len:Int) - i) from rfl]
 rw [if_pos ⟨Int.le_refl _,by omega,by omega,.inl rfl,he,.inl rfl⟩]
 simp
end
end Go.Ab
namespace Go.Ab
open Go.RowKit
def c8P (G:Gl) (rs:List a7I) (es:Nat) (e:Ex) (st:St):Prop:=
 match e with
 | .exit _=>False
 | _=>∃ a,U8 G st rs=some [a]∧((∃ b m,a= .own b 0 0∧a2c st.σ b=some (es,[],m))∨∃ e',a= .emp e')
def c8G (G:Gl) (Ok:Nat→List PV→Own→PV→Prop) (ext:Nat→Option a2w) (tab w9:Nat→Option n6) (d:Nat) (f:n6) (args:List PV) (es:Nat):Prop:=
 a7X 0 args .nil fun tm=>aw G Ok f.body true (J9 G Ok ext tab w9 d) (c8P G f.res es) {tm:=tm,σ:=[],nx:=0,nt:=f.ntmps}
theorem c4M {B:Nat} {w:World} {I:y8} (hb:∀ r k,I r k→r<w.heap.size) (es nm:Nat):
 B4 B w I (fun _=>none) [(nm,some (.arr es [] false))] (Names nm)∧g9 w I (fun _=>none) [(nm,some (.arr es [] false))] (Names nm) (.slice none 0 0) (.own nm 0 0):=by
 have key:∀ b o,find [(nm,some (e6.arr es [] false))] b=some o→b=nm∧o= .arr es [] false:=by
  intro b o h
  by_cases e:b=nm
  ·subst e
   simp [find] at h
   exact ⟨rfl,h.symm⟩
  ·have:(nm==b)=false:=by simpa using fun h=>e h.symm
   simp [find,this] at h
 have hn:Names nm nm:=⟨Nat.le_refl _,by unfold i4;omega⟩
 refine ⟨⟨hb,fun b o h=>?_,fun b b' o o' r _ _ h=>(by cases h),fun b o r _ h=>(by cases h),fun b o r k _ h=>(by cases h),fun b o h=>?_⟩,.own hn rfl fun o h=>?_⟩
 ·obtain ⟨rfl, -⟩:=key b o h;exact hn
 ·obtain ⟨rfl,rfl⟩:=key b o h;exact .inl ⟨rfl,rfl⟩
 ·obtain ⟨-,rfl⟩:=key _ o h
  exact ⟨none,0,rfl,Nat.le_refl _,⟨Nat.le_refl _,Nat.le_refl _⟩,.inl ⟨rfl,rfl⟩⟩
theorem b8F {P:Program} {G:Gl} {g:Nat} {c:n6} {ps:List PV} {es:Nat} (hm:P.follows .mixedOrders=true) (hk:d8 P g c=true) {ext:Nat→Option a2w} (hext:a3X P G fun g=>(ext g).map a6D) {tab w9:Nat→Option n6} (htab:∀ g c,tab g=some c→d8 P g c=true) (htabI:∀ g c,w9 g=some c→N3 P g c=true) {d:Nat}
 (hl:ps.length=c.nparams) (h:c8G G (j5 P G) ext tab w9 d c ps es):j5 P G g ps [(0,0)] (.sl es []):=by
 obtain ⟨fn,code,hf'⟩:=a0l hk
 intro w I vs hbnd hglob hargs
 refine ⟨hf'.enter vs,callsIn_of_wp_marks hf'.func hf'.body trivial ?_⟩
 simp only [c8G,T6] at h
 rw [hf'.nt]
 have hcore:Core w.heap.size w I w I (fun _=>none) [] (fun _=>False):=⟨⟨hbnd,fun b o h=>by simp [find] at h,fun b b' o o' r h=>by simp [find] at h,fun b o r h=>by simp [find] at h,fun b o r k h=>by simp [find] at h,fun b o h=>by simp [find] at h⟩,
  Below.refl _ _,Nat.le_refl _,fun _ _ h=>h,fun _ _ _ h=>h⟩
 have hsim:=a1K (gs:=fun _ _=>False) (D0:=fun _=>True) (n0:=0) (Y3:=fun _ _=>False) (nx:=0) (as:=ps.map .pv) (vs:=vs) (nt:=c.ntmps) hcore (fun b h=>h.elim) hglob (by rw [List.length_map];exact hargs.1)
  (fun j x q hx hq=>by
   rw [List.getElem?_map,Option.map_eq_some_iff] at hq
   obtain ⟨p,hp,rfl⟩:=hq
   exact .pv (hargs.2 j x p hx hp)) (fun _ _ h=>h.elim) (fun b h=>h.elim) (Nat.le_refl _) (fun _ _ h=>h.elim) (by rw [List.length_map];have:=hf'.np;omega) (by rw [List.length_map];have:=hf'.np';omega)
 have hE:a2C P G (J9 G (j5 P G) ext tab w9 d) none w.heap.size w I Gh.top:=⟨(Z9 hm hext htab htabI d).1,(Z9 hm hext htab htabI d).2,(fun _ h=>by cases h),(fun b h e=>by cases d <;>simp [J9] at e),fun n h=>by cases d <;>simp [J9] at h⟩
 refine wpIn_mono (a3v (ro:=none) hE hm (fun _=>rfl) c.body code hf'.code _ _ _ _ h hsim) fun e a w' he=>?_
 have fin:∀ s,(∃ a,U8 G s c.res=some [a]∧((∃ b m,a= .own b 0 0∧a2c s.σ b=some (es,[],m))∨∃ e',a= .emp e'))→a1s P G w.heap.size w I .top c.ntmps s a w'→
  LeavesInM Fence.wide 0 P fn a.tmps (a3p w I [(0,0)] (.sl es [])) a.defers .returning w':=by
  intro s ⟨av,hvs,hout⟩ ⟨_,_,I₁,ι,D,hx⟩
  obtain ⟨rs,m1,m2,m3⟩:=hx.dfs
  refine a0x (gh:=Gh.top) hf'.res hvs rs a.defers w' m1 m2 m3 hx fun w₂ v hx hrep=>?_
  rcases hout with ⟨b,m,rfl,hout⟩ | ⟨e',rfl⟩
  ·refine ⟨O7 I₁ ι s.σ m,hx.core.below,fun a k h=>.inl (hx.core.ext a k h),fun a k hlt h=>?_,fun nm=>⟨_,b6x hx.core.w5 hout hrep nm⟩⟩
   rcases h with h | ⟨b,o,_,hf,_,hr,_⟩
   ·exact hx.core.old a k hlt h
   ·have:=hx.core.w5.ge b o a hf hr;omega
  ·have hv:v= .slice none 0 0:=by
    have hr:g9 w₂ I₁ ι s.σ D v (.emp e'):=hrep
    cases hr;rfl
   subst hv
   exact ⟨I₁,hx.core.below,hx.core.ext,hx.core.old,fun nm=>⟨_,c4M hx.core.w5.bnd es nm⟩⟩
 cases e with
 | normal=>obtain ⟨s,hq,hs⟩:=he;exact fin s hq hs
 | ret=>obtain ⟨s,hq,hs⟩:=he;exact fin s hq hs
 | exit i=>obtain ⟨s,hq,hs⟩:=he;exact hq.elim
 | goto l=>exact he.elim
 | panic ch=>exact he.elim
 | outgrown=>exact he.elim
end Go.Ab
