/- A part of the proof: the texts TdSm, TdRm, AbOe, TdRv0, TdVa. Under: nothing. -/
import Derived.Test.YtngmifmcohmfmaaDoorG12
import Derived.Test.YtngmifmcohmfmaaDoorG05
import Derived.Test.YtngmifmcohmfmaaDoorG04
import Derived.Test.YtngmifmcohmfmaaDoorG10
import Derived.Test.YtngmifmcohmfmaaDoorG08
import Derived.Test.YtngmifmcohmfmaaDoorG11
import Derived.Test.YtngmifmcohmfmaaDoorG09
set_option linter.unusedVariables false
namespace Go.Ab.Td
set_option maxRecDepth 100000
set_option maxRecDepth 100000
open Go Go.Ab
variable {P:Program}
set_option linter.unusedSimpArgs false
attribute [local irreducible] d8
theorem Cl.ext' (a b:Cl):(a=b)=(a.kind=b.kind∧a.bytes=b.bytes∧a.items=b.items∧a.keys=b.keys∧a.A7=b.A7∧a.max=b.max∧a.at'=b.at'):=by
 cases a;cases b;simp
def c6c (c:Cl):Prop:=c.keys.length<2 ^ 62∧c.A7.length<2 ^ 62∧c.items.length<2 ^ 62
def big (h:List Cl):Prop:=h.length<2 ^ 62∧∀ c ∈ h,c6c c
set_option maxHeartbeats 1000000 in
theorem a3O (C:Laid P) (a b:Cl) (ha:c6c a):j6 P G E9 [aC a,aC b] [] (.bool (tt (a=b))):=by
 refine i7 C (a1i C) rfl ?_
 obtain ⟨h1,h2,h3⟩:=ha
 have he:=Cl.ext' a b
 repeat' ((conv=>whnf);first | (with_reducible refine sC (by kernel_rfl) ?_) | ((first | (with_reducible first | refine sB ?_ | refine x8 ?_ | refine x9 ?_) | refine sP (by rfl) ?_);first | refine oT ?_ | refine oF ?_ | (refine Or.inr (Or.inr ⟨fun hsp=>?_,fun hsp=>?_⟩) <;>(try simp only [nm,List.length_map] at hsp) <;>try subst hsp)) | refine ⟨_,_,J6 C a.items b.items (by assumption),?_⟩ | refine ⟨_,_,J6 C a.keys b.keys (by assumption),?_⟩ | refine ⟨_,_,J6 C a.A7 b.A7 (by assumption),?_⟩ | fail)
 all_goals (conv=>whnf)
 all_goals (first | (with_reducible refine E2 ?_) | (with_reducible refine C7 ?_) | (refine E7 ?_;try simp (disch:=omega) only [nm,wrap_small])) <;>(grind)
set_option maxHeartbeats 1000000 in
theorem a7E (C:Laid P) (l1 l2:List Cl) (hs:big l1):j6 P G O0 [.sl 7 (List.map k9 l1),.sl 7 (List.map k9 l2)] [] (.bool (tt (l1=l2))):=by
 refine i7 C (a5s C) rfl ?_
 obtain ⟨hl,hs1⟩:=hs
 repeat' ((conv=>whnf);first | (with_reducible refine sC (by kernel_rfl) ?_) | ((first | (with_reducible first | refine sB ?_ | refine x8 ?_ | refine x9 ?_) | refine sP (by rfl) ?_);first | refine oT ?_ | refine oF ?_ | (refine Or.inr (Or.inr ⟨fun hsp=>?_,fun hsp=>?_⟩) <;>(try simp only [nm,List.length_map] at hsp) <;>try subst hsp)) | fail)
 all_goals (conv=>whnf)
 all_goals try (exact C7 (by intro e;subst e;simp_all))
 intro X hX hW
 refine a3K hX (fun st (a:Nat)=>st.upd [(5,.pv (pI (a:Int)))] []) (fun a m=>a+m=l1.length∧(l1.length=l2.length∧((l1=l2)=(l1.drop a=l2.drop a)))) 0 l1.length (by (conv=>whnf);first | done | rfl) (by simp;omega) ?_
 intro m i ih hI
 rcases a2T l1 i with ⟨x,hlt,hx⟩ | hge
 ·have hrow:=C0 (f:=k9) hx
  have hd:=a0w hx
  have hI2:=hI.2
  rw [hd] at hI2
  obtain ⟨y,hy⟩:∃ y,l2[i]?=some y:=⟨_,List.getElem?_eq_getElem (by omega)⟩
  have hrow2:=C0 (f:=k9) hy
  have hd2:=a0w hy
  rw [hd2,List.cons.injEq] at hI2
  have hxs:=hs1 x (List.mem_of_getElem? hx)
  repeat' ((conv=>whnf);first | (with_reducible refine sC (by kernel_rfl) ?_) | ((first | (with_reducible first | refine sB ?_ | refine x8 ?_ | refine x9 ?_) | refine sP (by rfl) ?_);first | refine oT ?_ | refine oF ?_ | (refine Or.inr (Or.inr ⟨fun hsp=>?_,fun hsp=>?_⟩) <;>(try simp only [nm,List.length_map] at hsp) <;>try subst hsp)) | refine ⟨_,_,a3O C x y hxs,?_⟩ | refine sS (e8 (by rfl) (by rfl) (by omega) hrow) ?_ | refine sS (e8 (by rfl) (by rfl) (by omega) hrow2) ?_ | fail)
  all_goals (conv=>whnf)
  all_goals first
   | (refine ih (m - 1) (i+1) _ (by omega) ⟨by (try dsimp only);omega,?_⟩ (by (conv=>whnf);first | done | rfl | (simp (disch:=omega) only [z6])))
   | (with_reducible first | refine l8 ?_ | refine E2 ?_ | refine C7 ?_)
   | (refine E7 ?_;simp only [nm])
   | refine le_of_eq ?_
  all_goals (first | (have hd2:l2.drop i=[]:=List.drop_eq_nil_of_le (by omega);grind) | grind)
 ·have hd:l1.drop i=[]:=List.drop_eq_nil_of_le hge
  have hI2:=hI.2
  rw [hd] at hI2
  repeat' ((conv=>whnf);first | (with_reducible refine sC (by kernel_rfl) ?_) | ((first | (with_reducible first | refine sB ?_ | refine x8 ?_ | refine x9 ?_) | refine sP (by rfl) ?_);first | refine oT ?_ | refine oF ?_ | (refine Or.inr (Or.inr ⟨fun hsp=>?_,fun hsp=>?_⟩) <;>(try simp only [nm,List.length_map] at hsp) <;>try subst hsp)) | refine ⟨_,_,a3O C x y hxs,?_⟩ | fail)
  all_goals (conv=>whnf)
  all_goals first
   | (with_reducible first | refine l8 ?_ | refine E2 ?_ | refine C7 ?_)
   | (refine E7 ?_;simp only [nm])
   | refine le_of_eq ?_
  all_goals (first | (have hd2:l2.drop i=[]:=List.drop_eq_nil_of_le (by omega);grind) | grind)
end Go.Ab.Td
namespace Go.Ab.Td
set_option maxRecDepth 100000
set_option maxRecDepth 100000
open Go Go.Ab
variable {P:Program}
set_option linter.unusedSimpArgs false
attribute [local irreducible] d8 c3h
theorem c1R (C:Laid P) (x:Ob) (l:List Ob) (hl:l.length≤1000000):j6 P G k8 [.sl 7 (List.map g9 (x::l))] [(0,0)] (.sl 7 (List.map g9 (x::l))):=by
 refine b4g C.mixed (F6 C) (ext:=noX) (fun _ _ h=>by cases h) (tab:=noT) (u7:=noT) (d:=0) (fun _ _ h=>by cases h) (fun _ _ h=>by cases h) rfl ?_
 repeat' ((conv=>whnf);first | (with_reducible refine sC (by kernel_rfl) ?_) | ((first | (with_reducible first | refine sB ?_ | refine x8 ?_ | refine x9 ?_) | refine sP (by rfl) ?_);first | refine oT ?_ | refine oF ?_ | (refine Or.inr (Or.inr ⟨fun hsp=>?_,fun hsp=>?_⟩) <;>(try simp only [nm] at hsp) <;>try subst hsp)) | refine sS (m7 (f:=g9) (l:=([]:List Ob)) (x':=x::l) (by rfl) (by rfl) (by rfl) (by first | exact e9 | exact d6 | exact d7 (by rfl) (by rfl)) (by rfl) (by simp only [List.length_cons,List.length_nil];omega)) ?_ | fail)
 all_goals (conv=>whnf)
 refine ⟨20,[],?_,?_⟩
 ·show some [AV.own 20 0 (([]:List Ob).length+(x::l).length)]=_
  simp
 ·rfl
theorem c5k {k:Ob} {l:List Ob} (h:0≤i9 k 0 l):∃ i:Nat,i9 k 0 l=(i:Int)∧i<l.length:=by
 rcases b7q k l 0 with h1 | ⟨h1,h2⟩
 ·omega
 ·exact ⟨(i9 k 0 l).toNat,by omega,by omega⟩
end Go.Ab.Td
namespace Go.Ab
open Go.RowKit
def c7s (G:Gl) (rs:List a6Z) (es:Nat) (e:Ex) (st:St):Prop:=
 match e with
 | .exit _=>False
 | _=>∃ a,T4 G st rs=some [a]∧((∃ b m,a= .own b 0 0∧a1C st.σ b=some (es,[],m))∨∃ e',a= .emp e')
def c7k (G:Gl) (Ok:Nat→List PV→Own→PV→Prop) (ext:Nat→Option a1V) (tab u7:Nat→Option m0) (d:Nat) (f:m0) (args:List PV) (es:Nat):Prop:=
 a7n 0 args .nil fun tm=>aw G Ok f.body true (I2 G Ok ext tab u7 d) (c7s G f.res es) {tm:=tm,σ:=[],nx:=0,nt:=f.ntmps}
theorem c3w {B:Nat} {w:World} {I:w5} (hb:∀ r k,I r k→r<w.heap.size) (es nm:Nat):
 z7 B w I (fun _=>none) [(nm,some (.arr es [] false))] (Names nm)∧e6 w I (fun _=>none) [(nm,some (.arr es [] false))] (Names nm) (.slice none 0 0) (.own nm 0 0):=by
 have key:∀ b o,find [(nm,some (c8.arr es [] false))] b=some o→b=nm∧o= .arr es [] false:=by
  intro b o h
  by_cases e:b=nm
  ·subst e
   simp [find] at h
   exact ⟨rfl,h.symm⟩
  ·have:(nm==b)=false:=by simpa using fun h=>e h.symm
   simp [find,this] at h
 have hn:Names nm nm:=⟨Nat.le_refl _,by unfold f0;omega⟩
 refine ⟨⟨hb,fun b o h=>?_,fun b b' o o' r _ _ h=>(by cases h),fun b o r _ h=>(by cases h),fun b o r k _ h=>(by cases h),fun b o h=>?_⟩,.own hn rfl fun o h=>?_⟩
 ·obtain ⟨rfl, -⟩:=key b o h;exact hn
 ·obtain ⟨rfl,rfl⟩:=key b o h;exact .inl ⟨rfl,rfl⟩
 ·obtain ⟨-,rfl⟩:=key _ o h
  exact ⟨none,0,rfl,Nat.le_refl _,⟨Nat.le_refl _,Nat.le_refl _⟩,.inl ⟨rfl,rfl⟩⟩
theorem b7A {P:Program} {G:Gl} {g:Nat} {c:m0} {ps:List PV} {es:Nat} (hm:P.follows .mixedOrders=true) (hk:b9 P g c=true) {ext:Nat→Option a1V} (hext:a3w P G fun g=>(ext g).map a5Q) {tab u7:Nat→Option m0} (htab:∀ g c,tab g=some c→b9 P g c=true) (htabI:∀ g c,u7 g=some c→Q1 P g c=true) {d:Nat}
 (hl:ps.length=c.nparams) (h:c7k G (j6 P G) ext tab u7 d c ps es):j6 P G g ps [(0,0)] (.sl es []):=by
 obtain ⟨fn,code,hf'⟩:=Z4 hk
 intro w I vs hbnd hglob hargs
 refine ⟨hf'.enter vs,callsIn_of_wp_marks hf'.func hf'.body trivial ?_⟩
 simp only [c7k,R5] at h
 rw [hf'.nt]
 have hcore:Core w.heap.size w I w I (fun _=>none) [] (fun _=>False):=⟨⟨hbnd,fun b o h=>by simp [find] at h,fun b b' o o' r h=>by simp [find] at h,fun b o r h=>by simp [find] at h,fun b o r k h=>by simp [find] at h,fun b o h=>by simp [find] at h⟩,
  Below.refl _ _,Nat.le_refl _,fun _ _ h=>h,fun _ _ _ h=>h⟩
 have hsim:=a1m (gs:=fun _ _=>False) (D0:=fun _=>True) (n0:=0) (W4:=fun _ _=>False) (nx:=0) (as:=ps.map .pv) (vs:=vs) (nt:=c.ntmps) hcore (fun b h=>h.elim) hglob (by rw [List.length_map];exact hargs.1)
  (fun j x q hx hq=>by
   rw [List.getElem?_map,Option.map_eq_some_iff] at hq
   obtain ⟨p,hp,rfl⟩:=hq
   exact .pv (hargs.2 j x p hx hp)) (fun _ _ h=>h.elim) (fun b h=>h.elim) (Nat.le_refl _) (fun _ _ h=>h.elim) (by rw [List.length_map];have:=hf'.np;omega) (by rw [List.length_map];have:=hf'.np';omega)
 have hE:a2d P G (I2 G (j6 P G) ext tab u7 d) none w.heap.size w I Gh.top:=⟨(Y3 hm hext htab htabI d).1,(Y3 hm hext htab htabI d).2,(fun _ h=>by cases h),(fun b h e=>by cases d <;>simp [I2] at e),fun n h=>by cases d <;>simp [I2] at h⟩
 refine wpIn_mono (a2U (ro:=none) hE hm (fun _=>rfl) c.body code hf'.code _ _ _ _ h hsim) fun e a w' he=>?_
 have fin:∀ s,(∃ a,T4 G s c.res=some [a]∧((∃ b m,a= .own b 0 0∧a1C s.σ b=some (es,[],m))∨∃ e',a= .emp e'))→a0X P G w.heap.size w I .top c.ntmps s a w'→
  LeavesInM Fence.wide 0 P fn a.tmps (a2O w I [(0,0)] (.sl es [])) a.defers .returning w':=by
  intro s ⟨av,hvs,hout⟩ ⟨_,_,I₁,ι,D,hx⟩
  obtain ⟨rs,m1,m2,m3⟩:=hx.dfs
  refine a0e (gh:=Gh.top) hf'.res hvs rs a.defers w' m1 m2 m3 hx fun w₂ v hx hrep=>?_
  rcases hout with ⟨b,m,rfl,hout⟩ | ⟨e',rfl⟩
  ·refine ⟨M7 I₁ ι s.σ m,hx.core.below,fun a k h=>.inl (hx.core.ext a k h),fun a k hlt h=>?_,fun nm=>⟨_,b5o hx.core.q9 hout hrep nm⟩⟩
   rcases h with h | ⟨b,o,_,hf,_,hr,_⟩
   ·exact hx.core.old a k hlt h
   ·have:=hx.core.q9.ge b o a hf hr;omega
  ·have hv:v= .slice none 0 0:=by
    have hr:e6 w₂ I₁ ι s.σ D v (.emp e'):=hrep
    cases hr;rfl
   subst hv
   exact ⟨I₁,hx.core.below,hx.core.ext,hx.core.old,fun nm=>⟨_,c3w hx.core.q9.bnd es nm⟩⟩
 cases e with
 | normal=>obtain ⟨s,hq,hs⟩:=he;exact fin s hq hs
 | ret=>obtain ⟨s,hq,hs⟩:=he;exact fin s hq hs
 | exit i=>obtain ⟨s,hq,hs⟩:=he;exact hq.elim
 | goto l=>exact he.elim
 | panic ch=>exact he.elim
 | outgrown=>exact he.elim
end Go.Ab
namespace Go.Ab.Td
set_option maxRecDepth 100000
set_option maxRecDepth 100000
open Go Go.Ab
variable {P:Program}
set_option linter.unusedSimpArgs false
attribute [local irreducible] d8
theorem c0a (C:Laid P):j6 P G k8 [.sl 7 (List.map g9 [])] [(0,0)] (.sl 7 (List.map g9 [])):=by
 refine b7A C.mixed (F6 C) (ext:=noX) (fun _ _ h=>by cases h) (tab:=noT) (u7:=noT) (d:=0) (fun _ _ h=>by cases h) (fun _ _ h=>by cases h) rfl ?_
 conv=>whnf
 refine ⟨?_,?_⟩
 repeat' ((conv=>whnf);first | (with_reducible refine sC (by kernel_rfl) ?_) | ((first | (with_reducible first | refine sB ?_ | refine x8 ?_ | refine x9 ?_) | refine sP (by rfl) ?_);first | refine oT ?_ | refine oF ?_ | (refine Or.inr (Or.inr ⟨fun hsp=>?_,fun hsp=>?_⟩) <;>(try simp only [nm] at hsp) <;>try subst hsp)) | refine sS (T8 (by rfl) (by first | exact e9 | exact d6 | exact d7 (by rfl) (by rfl)) (by rfl) (by (try simp only [ln]);omega)) ?_ | refine sS (T8 (f:=g9) (x':=[⟨_,_,_,_,_,_,_⟩]) (by rfl) (by first | exact e9 | exact d6 | exact d7 (by rfl) (by rfl)) (by rfl) (by (try simp only [ln]);omega)) ?_ | refine sS (T8 (f:=k9) (x':=[⟨_,_,_,_,_,_,_⟩]) (by rfl) (by first | exact e9 | exact d6 | exact d7 (by rfl) (by rfl)) (by rfl) (by (try simp only [ln]);omega)) ?_ | refine sS (m7 (by rfl) (by rfl) (by (try simp only [ln]);omega) (by first | exact e9 | exact d6 | exact d7 (by rfl) (by rfl)) (by rfl) (by (try simp only [ln]);omega)) ?_ | refine sS (m7 (f:=g9) (x':=[⟨_,_,_,_,_,_,_⟩]) (by rfl) (by rfl) (by (try simp only [ln]);omega) (by first | exact e9 | exact d6 | exact d7 (by rfl) (by rfl)) (by rfl) (by (try simp only [ln]);omega)) ?_ | refine sS (m7 (f:=k9) (x':=[⟨_,_,_,_,_,_,_⟩]) (by rfl) (by rfl) (by (try simp only [ln]);omega) (by first | exact e9 | exact d6 | exact d7 (by rfl) (by rfl)) (by rfl) (by (try simp only [ln]);omega)) ?_ | refine sS (o9 (by rfl) (by first | exact e9 | exact d6 | exact d7 (by rfl) (by rfl)) (by rfl) (by (try simp only [ln]);omega)) ?_ | refine sS (o9 (f:=g9) (x':=[⟨_,_,_,_,_,_,_⟩]) (by rfl) (by first | exact e9 | exact d6 | exact d7 (by rfl) (by rfl)) (by rfl) (by (try simp only [ln]);omega)) ?_ | refine sS (o9 (f:=k9) (x':=[⟨_,_,_,_,_,_,_⟩]) (by rfl) (by first | exact e9 | exact d6 | exact d7 (by rfl) (by rfl)) (by rfl) (by (try simp only [ln]);omega)) ?_ | refine sS (a6G (by rfl) (by rfl) (by rfl) (by rfl) (by (try simp only [ln]);omega) (by (try simp only [ln]);omega) (by first | rfl | ((try simp only [ln]);omega)) (by (try simp only [ln]);omega)) ?_ | refine sS (a3S (by rfl) (by rfl) (by rfl) (by (try simp only [ln]);omega) (by (try simp only [ln]);omega) (by (try simp only [ln]);omega)) ?_ | refine sS (b2O (by rfl) (by rfl) (by rfl) (by (try simp only [ln]);omega) (by (try simp only [ln]);omega) (by (try simp only [ln]);omega)) ?_ | refine sS (a4V (by rfl) (by rfl) (by rfl) (by (try simp only [ln]);omega) (by (try simp only [ln]);omega) (by (try simp only [ln]);omega)) ?_ | refine sS (e8 (by rfl) (by rfl) (by omega) (a3l (d:=cl0) (by omega) (by omega))) ?_ | refine sS (e8 (by rfl) (by rfl) (by omega) (a3l (d:=ob0) (by omega) (by omega))) ?_ | refine sS (a4m (by rfl) (by rfl) (by omega)) ?_ | refine sS (b0h (by rfl) (by rfl) (by omega)) ?_ | fail)
 all_goals (conv=>whnf)
 ·exact ⟨_,rfl,.inr ⟨7,rfl⟩⟩
 ·exact ⟨_,rfl,.inl ⟨20,[],rfl,rfl⟩⟩
theorem c0b (C:Laid P) (l:List Ob) (hl:l.length≤1000000):j6 P G k8 [.sl 7 (List.map g9 l)] [(0,0)] (.sl 7 (List.map g9 l)):=by
 cases l with
 | nil=>exact c0a C
 | cons x l=>exact c1R C x l (by simp at hl;omega)
set_option maxHeartbeats 4000000 in
theorem b2r (C:Laid P) (s:B4) (o:Ob) (hl:s.ops.length≤1000):j6 P G I6 [aS s,.sl 7 (List.map g9 [o])] [] (aS {s with ops:=s.ops++[o]}):=by
 refine i7 C (a5r C) rfl ?_
 have epub:List.take ((List.map g9 s.ops).length+[o].length) (List.drop 0 (List.map g9 (s.ops++[o])))=List.map g9 (s.ops++[o]):=by
  rw [List.drop_zero,List.take_of_length_le (by simp)]
 have kCl:=c0b C s.ops (by omega)
 repeat' ((conv=>whnf);first | (with_reducible refine sC (by kernel_rfl) ?_) | ((first | (with_reducible first | refine sB ?_ | refine x8 ?_ | refine x9 ?_) | refine sP (by rfl) ?_);first | refine oT ?_ | refine oF ?_ | (refine Or.inr (Or.inr ⟨fun hsp=>?_,fun hsp=>?_⟩) <;>(try simp only [nm] at hsp) <;>try subst hsp)) | refine ⟨_,_,kCl,?_⟩ | refine sS (m7 (f:=g9) (l:=s.ops) (x':=[o]) (by rfl) (by rfl) (by first | rfl | exact (List.length_map ..).symm) (by first | exact e9 | exact d6 | exact d7 (by rfl) (by rfl)) (by rfl) (by simp;omega)) ?_ | fail)
 all_goals (conv=>whnf)
 all_goals (rw [epub];exact PV.le.refl _)
set_option maxHeartbeats 8000000 in
theorem b0e (C:Laid P) (s:B4) (l:List Sn) (n:Int) (hq:s.f3=l.map u1) (hl:l.length≤1000) (hno:plF n 0 l= -1):j6 P G O2 [aS s,pI n] [] (.v9 [pI 0,.bool false]):=by
 refine i7 C (a5t C) rfl ?_
 have kF:=y9 C s l n hq (by omega)
 rw [hno] at kF
 repeat' ((conv=>whnf);first | (with_reducible refine sC (by kernel_rfl) ?_) | ((first | (with_reducible first | refine sB ?_ | refine x8 ?_ | refine x9 ?_) | refine sP (by rfl) ?_);first | refine oT ?_ | refine oF ?_ | (refine Or.inr (Or.inr ⟨fun hsp=>?_,fun hsp=>?_⟩) <;>(try simp only [nm] at hsp) <;>try subst hsp)) | refine ⟨_,_,kF,?_⟩ | fail)
 all_goals (conv=>whnf)
 all_goals (exact PV.le.refl _)
set_option maxHeartbeats 8000000 in
theorem b0d (C:Laid P) (s:B4) (l:List Sn) (n:Int) (hq:s.f3=l.map u1) (hl:l.length≤1000) (i:Nat) (x:Sn) (hp:plF n 0 l=(i:Int)) (hx:l[i]?=some x):j6 P G O2 [aS s,pI n] [] (.v9 [pI (x.heap.length:Int),.bool true]):=by
 refine i7 C (a5t C) rfl ?_
 have kF:=y9 C s l n hq (by omega)
 rw [hp] at kF
 have hrow:s.f3[((i:Nat):Int).toNat]?=some (u1 x):=by rw [hq,List.getElem?_map,Int.toNat_natCast,hx];rfl
 have hi:=(List.getElem?_eq_some_iff.1 hx).1
 have hlen:s.f3.length=l.length:=by rw [hq,List.length_map]
 repeat' ((conv=>whnf);first | (with_reducible refine sC (by kernel_rfl) ?_) | ((first | (with_reducible first | refine sB ?_ | refine x8 ?_ | refine x9 ?_) | refine sP (by rfl) ?_);first | refine oT ?_ | refine oF ?_ | (refine Or.inr (Or.inr ⟨fun hsp=>?_,fun hsp=>?_⟩) <;>(try simp only [nm,List.length_map] at hsp) <;>try subst hsp)) | refine ⟨_,_,kF,?_⟩ | refine sS (e8 (by rfl) (by rfl) (by omega) hrow) ?_ | fail)
 all_goals (conv=>whnf)
 all_goals (first | exact PV.le.refl _ | (simp only [List.length_map];exact PV.le.refl _))
end Go.Ab.Td
namespace Go.Ab.Td
set_option maxRecDepth 100000
set_option maxRecDepth 100000
open Go Go.Ab
def SlF (F:List PV→Prop) (q:PV) (m:Nat):Prop:=(q= .emp 7∧m=0)∨∃ rr:List (List PV),q= .sl 7 rr∧rr.length=m∧∀ x ∈ rr,F x
def SlK (q:PV) (m:Nat):Prop:=(q= .emp 7∧m=0)∨q= .sl 7 ((List.range m).map fun i:Nat=>a7C (a6K (i:Int)))
def b0s (F:List PV→Prop) (r:List PV):Prop:=
 (∃ s:List UInt8,s.length≤40∧r=[.int .i64 1,.str s,.emp 7,.emp 7,.emp 7,.int .i64 0,.int .i64 0])∨
 (∃ (q:PV) (m:Nat),m≤5∧SlF F q m∧r=[.int .i64 2,.str [],q,.emp 7,.emp 7,.int .i64 0,.int .i64 0])∨
 (∃ (qk qv:PV) (m mx:Nat),m≤mx∧mx≤5∧SlK qk m∧SlF F qv m∧r=[.int .i64 3,.str [],.emp 7,qk,qv,.int .i64 (mx:Int),.int .i64 0])∨
 (∃ (s:List UInt8) (a mx:Int),s.length≤40∧0≤a∧a≤s.length∧(mx=0∨mx=1)∧r=[.int .i64 4,.str s,.emp 7,.emp 7,.emp 7,.int .i64 mx,.int .i64 a])
theorem b9P (x:Int): -2147483648≤IntKind.i32.wrap x∧IntKind.i32.wrap x≤2147483647:=by
 have e:IntKind.i32.wrap x=if x % 4294967296≥2147483648 then x % 4294967296 - 4294967296 else x % 4294967296:=by
  show (if (true&&decide (x % (2 ^ 32:Int)≥(2 ^ 31:Int)))=true then x % (2 ^ 32:Int) - (2 ^ 32:Int) else x % (2 ^ 32:Int))=_
  simp
 rw [e];split <;>omega
attribute [local irreducible] d8
section
variable (F:List PV→Prop) (Ok:Nat→List PV→Own→PV→Prop) (rows:List (List PV)) (K A B N:Int) (S:List UInt8) (hA:0≤A∧A<256) (hB:0≤B∧B<256)
variable (hO:∀ K' A' B' N' S',0≤A'∧A'<256→0≤B'∧B'<256→ -2147483648≤N'∧N'≤2147483647→∃ r,(F r∧a2Q r)∧Ok c9 [B5 K' A' B' N' S',.sl 7 rows] [] (.agg r))
variable (h65:∀ n,Ok l0 [.int .i64 n] [] (b5Y n)) (h66:∀ s,Ok v3 [.str s] [] (b6v s))
include hA hB hO h65 h66
set_option maxHeartbeats 4000000 in
theorem c4Y (h0:(K.tmod 5==0)=true):∃ r,b0s F r∧fnW wG Ok noX noT noT 0 w7 [B5 K A B N S,.sl 7 rows] (.agg r):=by
 have _u:=And.intro hA (And.intro hB (And.intro hO (And.intro h65 h66)))
 have hm:0≤(if (40:Int)<S.length then (40:Int) else (S.length:Int))∧(if (40:Int)<S.length then (40:Int) else (S.length:Int))≤S.length:=by split <;>omega
 have hc:=b1K S
 ·apply Exists.intro
  apply And.intro
  rotate_left
  ·conv=>whnf
   refine j1 (a4U (s:=S) (h:=if (40:Int)<S.length then (40:Int) else (S.length:Int)) (by rfl) (by rfl) hm.1 hm.2) ?_
   conv=>whnf
   refine w6 h0 ?_
   conv=>whnf
   refine w6 h0 ?_
   conv=>whnf
  ·exact .inl ⟨_,hc,rfl⟩
set_option maxHeartbeats 4000000 in
theorem c4Z (h0:(K.tmod 5==0)=false) (h1:(K.tmod 5==1)=true):∃ r,b0s F r∧fnW wG Ok noX noT noT 0 w7 [B5 K A B N S,.sl 7 rows] (.agg r):=by
 have _u:=And.intro hA (And.intro hB (And.intro hO (And.intro h65 h66)))
 have hm:0≤(if (40:Int)<S.length then (40:Int) else (S.length:Int))∧(if (40:Int)<S.length then (40:Int) else (S.length:Int))≤S.length:=by split <;>omega
 have hc:=b1K S
 ·apply Exists.intro
  apply And.intro
  rotate_left
  ·conv=>whnf
   refine j1 (a4U (s:=S) (h:=if (40:Int)<S.length then (40:Int) else (S.length:Int)) (by rfl) (by rfl) hm.1 hm.2) ?_
   conv=>whnf
   refine E6 h0 ?_
   conv=>whnf
   refine w6 h1 ?_
   conv=>whnf
  ·exact .inl ⟨_,hc,rfl⟩
set_option maxHeartbeats 4000000 in
theorem c5c (h0:(K.tmod 5==0)=false) (h1:(K.tmod 5==1)=false) (h2:(K.tmod 5==2)=false) (h3:(K.tmod 5==3)=false):∃ r,b0s F r∧fnW wG Ok noX noT noT 0 w7 [B5 K A B N S,.sl 7 rows] (.agg r):=by
 have _u:=And.intro hA (And.intro hB (And.intro hO (And.intro h65 h66)))
 have hm:0≤(if (40:Int)<S.length then (40:Int) else (S.length:Int))∧(if (40:Int)<S.length then (40:Int) else (S.length:Int))≤S.length:=by split <;>omega
 have hc:=b1K S
 have hne:IntKind.i64.wrap (((b3T S).length:Int)+1)≠0:=by rw [wrap_small (by omega) (by omega)];omega
 ·apply Exists.intro
  apply And.intro
  rotate_left
  ·conv=>whnf
   refine j1 (a4U (s:=S) (h:=if (40:Int)<S.length then (40:Int) else (S.length:Int)) (by rfl) (by rfl) hm.1 hm.2) ?_
   conv=>whnf
   refine E6 h0 ?_
   conv=>whnf
   refine E6 h1 ?_
   conv=>whnf
   refine E6 h2 ?_
   conv=>whnf
   refine E6 h3 ?_
   conv=>whnf
   refine j1 (a4m (k:=.i64) (a:=IntKind.i64.wrap A) (by rfl) (by rfl) hne) ?_
   conv=>whnf
   refine w6 (by kernel_rfl) ?_
   conv=>whnf
  ·refine .inr (.inr (.inr ⟨_,_,_,hc,?_,?_,?_,rfl⟩))
   ·exact Int.tmod_nonneg _ (by rw [wrap_small (by omega) (by omega)];exact hA.1)
   ·have e:IntKind.i64.wrap (((b3T S).length:Int)+1)=((b3T S).length:Int)+1:=wrap_small (by omega) (by omega)
    have q:=Int.tmod_lt_of_pos (IntKind.i64.wrap A) (show 0<IntKind.i64.wrap (((b3T S).length:Int)+1) by rw [e];omega)
    rw [e] at q ⊢
    exact Int.lt_add_one_iff.1 q
   ·have r2:0≤B.tmod 2∧B.tmod 2<2:=⟨Int.tmod_nonneg _ hB.1,Int.tmod_lt_of_pos _ (by decide)⟩
    rw [wrap_small (by omega) (by omega)]
    omega
end
end Go.Ab.Td
