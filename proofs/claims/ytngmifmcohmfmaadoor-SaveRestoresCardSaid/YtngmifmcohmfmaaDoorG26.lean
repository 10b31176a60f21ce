/- A part of the proof: the texts TdRv, TdLaid. Under: nothing. -/
import Derived.Test.YtngmifmcohmfmaaDoorG13
import Derived.Test.YtngmifmcohmfmaaDoorG24
import Derived.Test.YtngmifmcohmfmaaDoorG25
import Derived.Test.YtngmifmcohmfmaaDoorG06
import Derived.Test.YtngmifmcohmfmaaDoorChecked
import Derived.KernelRfl
set_option linter.unusedVariables false
namespace Go.Ab.Td
set_option maxRecDepth 100000
set_option maxRecDepth 100000
open Go Go.Ab
variable {P:Program}
set_option linter.unusedSimpArgs false
attribute [local irreducible] d8
set_option maxHeartbeats 8000000 in
theorem a5S (C:Laid P) (cells ops d9:List (List PV)) (hc:∀ r ∈ cells,a4u r) (ho:∀ r ∈ ops,a4u r) (hd:∀ r ∈ d9,∃ D,r=[.int .u8 D]∧0≤D∧D<256) (l:List (Int × Wd)) (hl:∀ p ∈ l,0≤p.1∧p.1<256) (n:Int) (hn:n<9223372036854775808) (w0:Wd):j6 P G S7 [.agg [.sl 5 cells,.sl 5 ops,.sl 1 d9],.sl 6 (l.map b2R),pI n,.agg w0.row] [] (.bool true):=by
 refine i7 C (a6n C) rfl ?_
 obtain ⟨s,⟨hst,hv,hk12⟩,kst⟩:=b7w C cells ops d9 hc ho hd
 have kS0:=b2q C cells ops d9 s kst
 obtain ⟨hsi,hsx⟩:=c2H hst hv hk12
 obtain ⟨s0,hs0⟩:∃ s0:B4,s0={s with f45:=1}:=⟨_,rfl⟩
 rw [← hs0] at kS0 hsi hsx
 clear hs0 hst hv hk12
 have kCut:=b5k C l
 obtain ⟨L,hL⟩:∃ L,L=l.take (60:Int).toNat:=⟨_,rfl⟩
 rw [← hL] at kCut
 have hLl:L.length≤60:=by rw [hL,show (60:Int).toNat=60 from rfl,List.length_take];omega
 have hLw:∀ p ∈ L,0≤p.1∧p.1<256:=fun p hp=>hl p (by rw [hL] at hp;exact List.mem_of_mem_take hp)
 clear hL hl
 repeat' ((conv=>whnf);first | (with_reducible refine sC (by kernel_rfl) ?_) | ((first | (with_reducible first | refine sB ?_ | refine x8 ?_ | refine x9 ?_) | refine sP (by rfl) ?_);first | refine oT ?_ | refine oF ?_ | (refine Or.inr (Or.inr ⟨fun hsp=>?_,fun hsp=>?_⟩) <;>(try simp only [nm,List.length_map] at hsp) <;>try subst hsp)) | refine ⟨_,_,TdW19.ok C,?_⟩ | refine ⟨_,_,kS0,?_⟩ | refine ⟨_,_,kCut,?_⟩ | fail)
 all_goals (conv=>whnf)
 intro X hX hW
 refine a3K hX (fun st (a:Nat × B4)=>st.upd [(31,.pv (pI (a.1:Int)))] [(28,.box 67 [(c3j a.2).map .pv] false)]) (fun a k=>a.1+k=L.length∧SX a.2∧∃ sl ts,SI False a.1 a.2 sl ts) (0,s0) L.length (by (conv=>whnf);first | done | rfl) ⟨by simp,hsx,_,_,hsi⟩ ?_
 intro m a ih hI
 obtain ⟨i,t⟩:=a
 obtain ⟨hI1,sx,sl,ts,si⟩:=hI
 dsimp only at hI1 sx si
 rcases a2T L i with ⟨⟨w,x⟩,hlt,hx⟩ | hge
 ·have hrow:=C0 (f:=b2R) hx
  have hw:=hLw _ (List.mem_of_getElem? hx)
  dsimp only at hw
  have w1:IntKind.i64.wrap ((i:Int)+1)=((i+1:Nat):Int):=by rw [wrap_small (by omega) (by omega)];omega
  have hw0:=Int.tmod_nonneg 8 hw.1
  by_cases h3:3≤w.tmod 8
  ·obtain ⟨s2,si2,sub,kA⟩:=b7T C si w hw x h3
   have kN:=b5h C w x.K x.A x.B x.N x.S h3
   have sx2:SX s2:=fun p hp hk=>(sub p hp).elim (fun h=>sx p h hk) (fun h=>absurd hk h)
   repeat' ((conv=>whnf);first | (with_reducible refine sC (by kernel_rfl) ?_) | ((first | (with_reducible first | refine sB ?_ | refine x8 ?_ | refine x9 ?_) | refine sP (by rfl) ?_);first | refine oT ?_ | refine oF ?_ | (refine Or.inr (Or.inr ⟨fun hsp=>?_,fun hsp=>?_⟩) <;>(try simp only [nm,List.length_map] at hsp) <;>try subst hsp)) | refine ⟨_,_,kN,?_⟩ | refine ⟨_,_,kA,?_⟩ | refine sS (e8 (by rfl) (by rfl) (by omega) hrow) ?_ | fail)
   all_goals (conv=>whnf)
   all_goals (refine ih (m - 1) (i+1,s2) _ (by omega) ⟨by dsimp only;omega,sx2,_,_,si2.more (by omega)⟩ (by (conv=>whnf);first | done | rfl | (rw [w1];rfl) | (simp (disch:=omega) only [z6])))
  ·have hr:w.tmod 8=0∨w.tmod 8=1∨w.tmod 8=2:=by omega
   rcases hr with hr | hr | hr
   ·obtain ⟨t2,e,l2,ts2,si2,sx2,kb1,kb2⟩:=b8R C si sx (by omega)
    clear kb1
    have kN:=b5i C w x.K x.A x.B x.N x.S hr
    repeat' ((conv=>whnf);first | (with_reducible refine sC (by kernel_rfl) ?_) | ((first | (with_reducible first | refine sB ?_ | refine x8 ?_ | refine x9 ?_) | refine sP (by rfl) ?_);first | refine oT ?_ | refine oF ?_ | (refine Or.inr (Or.inr ⟨fun hsp=>?_,fun hsp=>?_⟩) <;>(try simp only [nm,List.length_map] at hsp) <;>try subst hsp)) | refine ⟨_,_,kN,?_⟩ | refine ⟨_,_,kb2,?_⟩ | refine sS (e8 (by rfl) (by rfl) (by omega) hrow) ?_ | fail)
    all_goals (conv=>whnf)
    all_goals (refine ih (m - 1) (i+1,t2) _ (by omega) ⟨by dsimp only;omega,sx2,_,_,si2⟩ (by (conv=>whnf);first | done | rfl | (rw [w1];rfl) | (simp (disch:=omega) only [z6])))
   ·obtain ⟨t2,e,l2,ts2,si2,sx2,kb1,kb2⟩:=b1L C si sx
    clear kb1
    have kN:=b0W C w x.K x.A x.B x.N x.S hr
    repeat' ((conv=>whnf);first | (with_reducible refine sC (by kernel_rfl) ?_) | ((first | (with_reducible first | refine sB ?_ | refine x8 ?_ | refine x9 ?_) | refine sP (by rfl) ?_);first | refine oT ?_ | refine oF ?_ | (refine Or.inr (Or.inr ⟨fun hsp=>?_,fun hsp=>?_⟩) <;>(try simp only [nm,List.length_map] at hsp) <;>try subst hsp)) | refine ⟨_,_,kN,?_⟩ | refine ⟨_,_,kb2,?_⟩ | refine sS (e8 (by rfl) (by rfl) (by omega) hrow) ?_ | fail)
    all_goals (conv=>whnf)
    all_goals (refine ih (m - 1) (i+1,t2) _ (by omega) ⟨by dsimp only;omega,sx2,_,_,si2⟩ (by (conv=>whnf);first | done | rfl | (rw [w1];rfl) | (simp (disch:=omega) only [z6])))
   ·obtain ⟨t2,e,l2,ts2,si2,sx2,kb1,kb2⟩:=c4u C si sx
    clear kb1
    have kN:=b0a C w x.K x.A x.B x.N x.S hr
    repeat' ((conv=>whnf);first | (with_reducible refine sC (by kernel_rfl) ?_) | ((first | (with_reducible first | refine sB ?_ | refine x8 ?_ | refine x9 ?_) | refine sP (by rfl) ?_);first | refine oT ?_ | refine oF ?_ | (refine Or.inr (Or.inr ⟨fun hsp=>?_,fun hsp=>?_⟩) <;>(try simp only [nm,List.length_map] at hsp) <;>try subst hsp)) | refine ⟨_,_,kN,?_⟩ | refine ⟨_,_,kb2,?_⟩ | refine sS (e8 (by rfl) (by rfl) (by omega) hrow) ?_ | fail)
    all_goals (conv=>whnf)
    all_goals (refine ih (m - 1) (i+1,t2) _ (by omega) ⟨by dsimp only;omega,sx2,_,_,si2⟩ (by (conv=>whnf);first | done | rfl | (rw [w1];rfl) | (simp (disch:=omega) only [z6])))
 ·have ol:=si.ol
  have tmade:=si.made
  have him:i≤60:=by omega
  obtain ⟨i0,hi0⟩:∃ k,k=i:=⟨_,rfl⟩
  rw [← hi0] at him si
  clear ih hI1 hLw hLl kS0 kCut hsi hsx hX hW
  have e99:(if (99:Int)<((List.map g9 t.ops).length:Int) then (99:Int) else ((List.map g9 t.ops).length:Int))=((min t.ops.length 99:Nat):Int):=by rw [List.length_map];split <;>omega
  have kO:=J5 C t.heap si.sh.sm w0.K w0.A w0.B w0.N w0.S w0.hA w0.hB w0.hN
  have on:=b6w t.heap w0.K w0.A w0.B w0.N w0.hA w0.hN
  have k12:=b5f t.heap w0.K w0.A w0.B w0.N
  generalize a8a t.heap w0.K w0.A w0.B w0.N=o2 at kO on k12
  repeat' ((conv=>whnf);first | (with_reducible refine sC (by kernel_rfl) ?_) | ((first | (with_reducible first | refine sB ?_ | refine x8 ?_ | refine x9 ?_) | refine sP (by rfl) ?_);first | refine oT ?_ | refine oF ?_ | (refine Or.inr (Or.inr ⟨fun hsp=>?_,fun hsp=>?_⟩) <;>(try simp only [nm,List.length_map] at hsp) <;>try subst hsp)) | refine ⟨_,_,b2p C _,?_⟩ | refine ⟨_,_,kO,?_⟩ | refine sS (b4o (f:=g9) (by rfl) (by rfl) (by decide)) ?_ | fail)
  all_goals (conv=>whnf)
  intro X hX hW
  have hos:∀ o ∈ ([svO (IntKind.i64.wrap (1+IntKind.i64.wrap ((IntKind.u64.wrap n).tmod 9))),svO (if 1>n then 1 else n),o2,svO (if 1>t.f4 then 1 else t.f4)]:List Ob),o.n<9223372036854775808∧(o.kind=12→o=svO o.n):=by
   intro o ho
   simp only [List.mem_cons,List.not_mem_nil,or_false] at ho
   rcases ho with rfl | rfl | rfl | rfl
   ·exact ⟨c4o _,fun _=>rfl⟩
   ·exact ⟨by show (if 1>n then 1 else n)<_;split <;>omega,fun _=>rfl⟩
   ·exact ⟨on,fun h=>absurd h k12⟩
   ·exact ⟨by show (if 1>t.f4 then 1 else t.f4)<_;split <;>omega,fun _=>rfl⟩
  obtain ⟨t9,ht9⟩:∃ t9:B4,t9={t with ops:=t.ops.take (99:Int).toNat}:=⟨_,rfl⟩
  have l9:t9.ops.length≤99:=by rw [ht9];show (t.ops.take (99:Int).toNat).length≤99;rw [List.length_take];exact Nat.le_trans (Nat.min_le_left _ _) (by decide)
  have m9:∀ p ∈ t9.ops,p ∈ t.ops:=by rw [ht9];exact fun p hp=>List.mem_of_mem_take hp
  have si9:SI False i0 t9 sl ts:=by rw [ht9];exact si.b0l (by rw [ht9] at l9;exact Nat.le_trans l9 (by decide)) (fun h=>h.elim) (fun p hp=>si.on p (List.mem_of_mem_take hp))
  have sx9:SX t9:=fun p hp hk=>sx p (m9 p hp) hk
  refine a3K hX (fun st (a:Nat)=>st.upd [(75,.pv (pI (a:Int)))] [(1,.box 67 [(c3j t9).map .pv] false)]) (fun a k=>a+k=4) 0 4 (by rw [ht9];(conv=>whnf);first | done | rfl) rfl ?_
  clear ht9 m9
  intro m i ih hI
  rcases a2T ([svO (IntKind.i64.wrap (1+IntKind.i64.wrap ((IntKind.u64.wrap n).tmod 9))),svO (if 1>n then 1 else n),o2,svO (if 1>t.f4 then 1 else t.f4)]:List Ob) i with ⟨o,hlt,hx⟩ | hge
  ·have hrow:([g9 (svO (IntKind.i64.wrap (1+IntKind.i64.wrap ((IntKind.u64.wrap n).tmod 9)))),g9 (svO (if 1>n then 1 else n)),g9 (o2),g9 (svO (if 1>t.f4 then 1 else t.f4))]:List (List PV))[i]?=some (g9 o):=by
    have:=congrArg (Option.map g9) hx
    rw [← List.getElem?_map] at this
    exact this
   obtain ⟨on',osx⟩:=hos o (List.mem_of_getElem? hx)
   have h4:i<4:=by simpa using hlt
   have w1:IntKind.i64.wrap ((i:Int)+1)=((i+1:Nat):Int):=by rw [wrap_small (by omega) (by omega)];omega
   clear hos hx
   obtain ⟨t1,ht1⟩:∃ t1:B4,t1={t9 with ops:=t9.ops++[o]}:=⟨_,rfl⟩
   have si1:SI False i0 t1 sl ts:=by
    rw [ht1]
    refine si9.b0l (by rw [List.length_append];simp;omega) (fun h=>h.elim) (fun p hp=>?_)
    rcases List.mem_append.1 hp with hp | hp
    ·exact si9.on p hp
    ·simp only [List.mem_singleton] at hp;subst hp;exact on'
   have sx1:SX t1:=by
    rw [ht1]
    intro p hp hk
    rcases List.mem_append.1 hp with hp | hp
    ·exact sx9 p hp hk
    ·simp only [List.mem_singleton] at hp;subst hp;exact osx hk
   have kW:=b2r C t9 o (by omega)
   rw [← ht1] at kW
   have H4:∀ op ∈ ([[114,101,115,116,111,114,101],[115,97,118,101],[118,109,115,116,97,116,117,115],[102,114,101,101]]:List (List UInt8)),∃ (u:B4) (e:Int),j6 P G B0 [aS t1,.str op] [] (.v9 [aS u,pI e])∧j6 P G q8 [aS t1,.str op] [] (.v9 [aS u,pI e])∧j6 P G n8 [aS u,aS u] [] (.bool true):=by
    intro op hop
    have sm:∀ {k:Nat} {u:B4} {l2:List Sn} {ts2:List B4},SI False k u l2 ts2→j6 P G n8 [aS u,aS u] [] (.bool true):=fun {k u l2 ts2} si2=>a8c C u l2 ts2 si2.h3 si2.h62 (b2P si2.sh.sm) (fun y hy=>by obtain ⟨q,hq⟩:=List.getElem?_of_mem hy;exact b2P (si2.sv q y hq).2.1.sm) (by have:=si2.ll;omega) (by have:=si2.ll;have:=si2.tl;omega) (by have:=si2.ol;omega) (by have:=si2.dl;omega)
    simp only [List.mem_cons,List.not_mem_nil,or_false] at hop
    rcases hop with rfl | rfl | rfl | rfl
    ·obtain ⟨u,e,l2,ts2,si2, -,b1,b2⟩:=b1L C si1 sx1
     exact ⟨u,e,b1,b2,sm si2⟩
    ·obtain ⟨u,e,l2,ts2,si2, -,b1,b2⟩:=b8R C si1 sx1 (by omega)
     exact ⟨u,e,b1,b2,sm si2⟩
    ·obtain ⟨u,e,l2,ts2,si2, -,b1,b2⟩:=c4u C si1 sx1
     exact ⟨u,e,b1,b2,sm si2⟩
    ·exact ⟨t1,24,b2x C t1,b6x C t1,sm si1⟩
   clear si1 sx1 ht1
   have IA:True:=trivial
   repeat' ((conv=>whnf);first | (with_reducible refine sC (by kernel_rfl) ?_) | ((first | (with_reducible first | refine sB ?_ | refine x8 ?_ | refine x9 ?_) | refine sP (by rfl) ?_);first | refine oT ?_ | refine oF ?_ | (refine Or.inr (Or.inr ⟨fun hsp=>?_,fun hsp=>?_⟩) <;>(try simp only [nm,List.length_map] at hsp) <;>try subst hsp)) | refine ⟨_,_,kW,?_⟩ | refine sS (b6d (y:=g9 o) hrow (by rfl) (by rfl) (by rfl) (by rfl) (by rfl) (by rfl) (by rfl)) ?_ | fail)
   all_goals (conv=>whnf)
   intro X1 hX1 hW1
   refine a3K hX1 (fun st (a:Nat)=>st.upd [(83,.pv (pI (a:Int)))] []) (fun a k=>a+k=4) 0 4 (by (conv=>whnf);first | done | rfl) rfl ?_
   intro m1 j ih1 hJ
   rcases a2T ([[114,101,115,116,111,114,101],[115,97,118,101],[118,109,115,116,97,116,117,115],[102,114,101,101]]:List (List UInt8)) j with ⟨op,hlt1,hx1⟩ | hge1
   ·obtain ⟨u,e,kb1,kb2,kSS⟩:=H4 op (List.mem_of_getElem? hx1)
    have h5:j<4:=by simpa using hlt1
    have hrow1:([PV.str [114,101,115,116,111,114,101],PV.str [115,97,118,101],PV.str [118,109,115,116,97,116,117,115],PV.str [102,114,101,101]]:List PV)[j]?=some (.str op):=by
     have:=congrArg (Option.map PV.str) hx1
     rw [← List.getElem?_map] at this
     exact this
    have w2:IntKind.i64.wrap ((j:Int)+1)=((j+1:Nat):Int):=by rw [wrap_small (by omega) (by omega)];omega
    clear H4
    repeat' ((conv=>whnf);first | (with_reducible refine sC (by kernel_rfl) ?_) | ((first | (with_reducible first | refine sB ?_ | refine x8 ?_ | refine x9 ?_) | refine sP (by rfl) ?_);first | refine oT ?_ | refine oF ?_ | (refine Or.inr (Or.inr ⟨fun hsp=>?_,fun hsp=>?_⟩) <;>(try simp only [nm,List.length_map] at hsp) <;>try subst hsp)) | refine ⟨_,_,kb1,?_⟩ | refine ⟨_,_,kb2,?_⟩ | refine ⟨_,_,kSS,?_⟩ | refine sS (b4Q (y:=.str op) hrow1 (by rfl) (by rfl) (by rfl)) ?_ | fail)
    all_goals (conv=>whnf)
    all_goals (refine ih1 (m1 - 1) (j+1) _ (by omega) (by omega) (by (conv=>whnf);first | done | rfl | (rw [w2];first | done | rfl)))
   ·have h5:4≤j:=by simpa using hge1
    have ll:=si9.ll
    clear H4 ih1
    have kPl:=T0 C t9 sl o.n si9.h3 (by omega)
    rcases b0g o.n sl 0 with e | ⟨q,y,e,hy⟩
    ·have kCl:=b0e C t9 sl o.n si9.h3 (by omega) e
     rw [e] at kPl
     repeat' ((conv=>whnf);first | (with_reducible refine sC (by kernel_rfl) ?_) | ((first | (with_reducible first | refine sB ?_ | refine x8 ?_ | refine x9 ?_) | refine sP (by rfl) ?_);first | refine oT ?_ | refine oF ?_ | (refine Or.inr (Or.inr ⟨fun hsp=>?_,fun hsp=>?_⟩) <;>(try simp only [nm,List.length_map] at hsp) <;>try subst hsp)) | refine ⟨_,_,kCl,?_⟩ | refine ⟨_,_,kPl,?_⟩ | fail)
     all_goals (conv=>whnf)
     all_goals (refine ih (m - 1) (i+1) _ (by omega) (by omega) (by (conv=>whnf);first | done | rfl | (rw [w1];first | done | rfl)))
    ·have hq:=(List.getElem?_eq_some_iff.1 hy).1
     have kCl:=b0d C t9 sl o.n si9.h3 (by omega) q y (by rw [e];congr 1;omega) hy
     rw [e,Nat.zero_add] at kPl
     have hrow:t9.f3[((q:Nat):Int).toNat]?=some (u1 y):=by rw [si9.h3,List.getElem?_map,Int.toNat_natCast,hy];rfl
     have hl3:t9.f3.length=sl.length:=by rw [si9.h3,List.length_map]
     repeat' ((conv=>whnf);first | (with_reducible refine sC (by kernel_rfl) ?_) | ((first | (with_reducible first | refine sB ?_ | refine x8 ?_ | refine x9 ?_) | refine sP (by rfl) ?_);first | refine oT ?_ | refine oF ?_ | (refine Or.inr (Or.inr ⟨fun hsp=>?_,fun hsp=>?_⟩) <;>(try simp only [nm,List.length_map] at hsp) <;>try subst hsp)) | refine ⟨_,_,kCl,?_⟩ | refine ⟨_,_,kPl,?_⟩ | refine sS (e8 (by rfl) (by rfl) (by omega) hrow) ?_ | fail)
     all_goals (conv=>whnf)
     all_goals (refine ih (m - 1) (i+1) _ (by omega) (by omega) (by (conv=>whnf);first | done | rfl | (rw [w1];first | done | rfl)))
  ·have h4:4≤i:=by simpa using hge
   repeat' ((conv=>whnf);first | (with_reducible refine sC (by kernel_rfl) ?_) | ((first | (with_reducible first | refine sB ?_ | refine x8 ?_ | refine x9 ?_) | refine sP (by rfl) ?_);first | refine oT ?_ | refine oF ?_ | (refine Or.inr (Or.inr ⟨fun hsp=>?_,fun hsp=>?_⟩) <;>(try simp only [nm,List.length_map] at hsp) <;>try subst hsp)) | fail)
   all_goals (conv=>whnf)
   all_goals (exact PV.le.refl _)
end Go.Ab.Td
namespace Go.Ab.Td
set_option maxRecDepth 100000
open Go Go.Ab Go.Proofs
theorem laid:Laid Tryd.prog:=⟨by kernel_rfl,by kernel_rfl,by kernel_rfl,by kernel_rfl,by kernel_rfl⟩
end Go.Ab.Td
