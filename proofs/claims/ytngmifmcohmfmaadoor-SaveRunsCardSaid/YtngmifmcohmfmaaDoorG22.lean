/- A part of the proof: the texts TdSy, TdSv, TdVz. Under: nothing. -/
import Derived.Test.YtngmifmcohmfmaaDoorG21
import Derived.Test.YtngmifmcohmfmaaDoorG15
import Derived.Test.YtngmifmcohmfmaaDoorG13
import Derived.Test.YtngmifmcohmfmaaDoorG18
import Derived.Test.YtngmifmcohmfmaaDoorG19
import Derived.Test.YtngmifmcohmfmaaDoorG20
set_option linter.unusedVariables false
namespace Go.Ab.Td
set_option maxRecDepth 100000
set_option maxRecDepth 100000
open Go Go.Ab
variable {P:Program}
set_option linter.unusedSimpArgs false
attribute [local irreducible] f0
set_option maxHeartbeats 8000000 in
theorem b3u (C:Laid P) (s:F2) (w K A B N:Int) (S:List UInt8) (o:Ob) (ko:j7 P G e6 [C6 K A B N S,.sl 7 (List.map j9 s.heap)] [] (aO o)) (hw:w.tmod 8=6) (hs:small s.heap) (on:o.n<9223372036854775808) (hk:o.kind=6) (hl:0<o.len) (hv:a8F s.heap o [6]=0) (hr:a2w o 0 ([122]:List UInt8).length=0):j7 P G i7 [.agg [.int .u8 w,.int .u8 K,.int .u8 A,.int .u8 B,.int .i32 N,.str S],aS s] [] (aS {s with heap:=a4V s.heap o 0 [122]}):=by
 refine i5 C (k8 C) rfl ?_
 repeat' ((conv=>whnf);first | (with_reducible refine sC (by kernel_rfl) ?_) | ((first | (with_reducible first | refine sB ?_ | refine o8 ?_ | refine o7 ?_) | refine sP (by rfl) ?_);first | refine Or.inl ⟨by first | assumption | (simp only [nm,List.length_map,hw,hk];first | done | assumption | omega),?_⟩ | refine Or.inr (Or.inl ⟨by first | assumption | (simp only [nm,List.length_map,hw,hk];first | done | assumption | omega),?_⟩) | (refine Or.inr (Or.inr ⟨fun hsp=>?_,fun hsp=>?_⟩) <;>(try simp only [nm,List.length_map,hw,hk] at hsp) <;>try subst hsp)) | refine ⟨_,_,ko,?_⟩ | refine ⟨_,_,a9z C s.heap o hs on 0 [122] (by simp) hv hr,?_⟩ | fail)
 all_goals (conv=>whnf)
 all_goals (first | exact PV.le.refl _ | (exfalso;omega) | ((repeat' (first | (with_reducible exact PV.le.refl _) | exact PV.le.emp _ | exact H8.nil | (with_reducible refine v3 ?_) | (with_reducible refine o6 ?_) | (refine H8.cons ?_ ?_) | (with_reducible refine k7 ?_) | (with_reducible refine w8 ?_) | (with_reducible refine z6 ?_) | (with_reducible refine x6 ?_) | (with_reducible refine r9 ?_) | (refine z9 ?_))) <;>(first | rfl | exact PV.le.refl _ | (simp;done) | (refine le_of_eq ?_;simp;done))))
set_option maxHeartbeats 8000000 in
theorem b2T (C:Laid P) (s:F2) (w K A B N:Int) (S:List UInt8) (o:Ob) (ko:j7 P G e6 [C6 K A B N S,.sl 7 (List.map j9 s.heap)] [] (aO o)) (hw:w.tmod 8=6) (hs:small s.heap) (on:o.n<9223372036854775808) (hk:o.kind=7) (hl:0<o.len) (hv:a8F s.heap o [7,8]=0) (hr:a2w o 0 ([o]:List Ob).length=0):j7 P G i7 [.agg [.int .u8 w,.int .u8 K,.int .u8 A,.int .u8 B,.int .i32 N,.str S],aS s] [] (aS {s with heap:=a5s s.heap o 0 [o]}):=by
 refine i5 C (k8 C) rfl ?_
 repeat' ((conv=>whnf);first | (with_reducible refine sC (by kernel_rfl) ?_) | ((first | (with_reducible first | refine sB ?_ | refine o8 ?_ | refine o7 ?_) | refine sP (by rfl) ?_);first | refine Or.inl ⟨by first | assumption | (simp only [nm,List.length_map,hw,hk];first | done | assumption | omega),?_⟩ | refine Or.inr (Or.inl ⟨by first | assumption | (simp only [nm,List.length_map,hw,hk];first | done | assumption | omega),?_⟩) | (refine Or.inr (Or.inr ⟨fun hsp=>?_,fun hsp=>?_⟩) <;>(try simp only [nm,List.length_map,hw,hk] at hsp) <;>try subst hsp)) | refine ⟨_,_,ko,?_⟩ | refine ⟨_,_,a9D C s.heap o hs on 0 [o] (by simp) hv hr,?_⟩ | fail)
 all_goals (conv=>whnf)
 all_goals (first | exact PV.le.refl _ | (exfalso;omega) | ((repeat' (first | (with_reducible exact PV.le.refl _) | exact PV.le.emp _ | exact H8.nil | (with_reducible refine v3 ?_) | (with_reducible refine o6 ?_) | (refine H8.cons ?_ ?_) | (with_reducible refine k7 ?_) | (with_reducible refine w8 ?_) | (with_reducible refine z6 ?_) | (with_reducible refine x6 ?_) | (with_reducible refine r9 ?_) | (refine z9 ?_))) <;>(first | rfl | exact PV.le.refl _ | (simp;done) | (refine le_of_eq ?_;simp;done))))
set_option maxHeartbeats 8000000 in
theorem b3h (C:Laid P) (s:F2) (w K A B N:Int) (S:List UInt8) (o:Ob) (ko:j7 P G e6 [C6 K A B N S,.sl 7 (List.map j9 s.heap)] [] (aO o)) (hw:w.tmod 8=6) (hs:small s.heap) (on:o.n<9223372036854775808) (hk:o.kind=9) (h0:0≤o.ref) (h1:o.ref<s.heap.length) (c:Cl) (hp:a2B (cellAt s.heap o) (nmO [110,101,119]) o=some c):j7 P G i7 [.agg [.int .u8 w,.int .u8 K,.int .u8 A,.int .u8 B,.int .i32 N,.str S],aS s] [] (aS {s with heap:=s.heap.set o.ref.toNat c}):=by
 refine i5 C (k8 C) rfl ?_
 repeat' ((conv=>whnf);first | (with_reducible refine sC (by kernel_rfl) ?_) | ((first | (with_reducible first | refine sB ?_ | refine o8 ?_ | refine o7 ?_) | refine sP (by rfl) ?_);first | refine Or.inl ⟨by first | assumption | (simp only [nm,List.length_map,hw,hk];first | done | assumption | omega),?_⟩ | refine Or.inr (Or.inl ⟨by first | assumption | (simp only [nm,List.length_map,hw,hk];first | done | assumption | omega),?_⟩) | (refine Or.inr (Or.inr ⟨fun hsp=>?_,fun hsp=>?_⟩) <;>(try simp only [nm,List.length_map,hw,hk] at hsp) <;>try subst hsp)) | refine ⟨_,_,ko,?_⟩ | refine ⟨_,_,b3x C s.heap o (nmO [110,101,119]) o c h0 h1 hs hp,?_⟩ | fail)
 all_goals (conv=>whnf)
 all_goals (first | exact PV.le.refl _ | (exfalso;omega) | ((repeat' (first | (with_reducible exact PV.le.refl _) | exact PV.le.emp _ | exact H8.nil | (with_reducible refine v3 ?_) | (with_reducible refine o6 ?_) | (refine H8.cons ?_ ?_) | (with_reducible refine k7 ?_) | (with_reducible refine w8 ?_) | (with_reducible refine z6 ?_) | (with_reducible refine x6 ?_) | (with_reducible refine r9 ?_) | (refine z9 ?_))) <;>(first | rfl | exact PV.le.refl _ | (simp;done) | (refine le_of_eq ?_;simp;done))))
set_option maxHeartbeats 8000000 in
theorem b0j (C:Laid P) (s:F2) (w K A B N:Int) (S:List UInt8) (o:Ob) (ko:j7 P G e6 [C6 K A B N S,.sl 7 (List.map j9 s.heap)] [] (aO o)) (hw:w.tmod 8=6) (hs:small s.heap) (on:o.n<9223372036854775808) (hk:o.kind=9) (h0:0≤o.ref) (h1:o.ref<s.heap.length) (hp:a2B (cellAt s.heap o) (nmO [110,101,119]) o=none):j7 P G i7 [.agg [.int .u8 w,.int .u8 K,.int .u8 A,.int .u8 B,.int .i32 N,.str S],aS s] [] (aS s):=by
 refine i5 C (k8 C) rfl ?_
 repeat' ((conv=>whnf);first | (with_reducible refine sC (by kernel_rfl) ?_) | ((first | (with_reducible first | refine sB ?_ | refine o8 ?_ | refine o7 ?_) | refine sP (by rfl) ?_);first | refine Or.inl ⟨by first | assumption | (simp only [nm,List.length_map,hw,hk];first | done | assumption | omega),?_⟩ | refine Or.inr (Or.inl ⟨by first | assumption | (simp only [nm,List.length_map,hw,hk];first | done | assumption | omega),?_⟩) | (refine Or.inr (Or.inr ⟨fun hsp=>?_,fun hsp=>?_⟩) <;>(try simp only [nm,List.length_map,hw,hk] at hsp) <;>try subst hsp)) | refine ⟨_,_,ko,?_⟩ | refine ⟨_,_,a7L C s.heap o (nmO [110,101,119]) o h0 h1 hs hp,?_⟩ | fail)
 all_goals (conv=>whnf)
 all_goals (first | exact PV.le.refl _ | (exfalso;omega) | ((repeat' (first | (with_reducible exact PV.le.refl _) | exact PV.le.emp _ | exact H8.nil | (with_reducible refine v3 ?_) | (with_reducible refine o6 ?_) | (refine H8.cons ?_ ?_) | (with_reducible refine k7 ?_) | (with_reducible refine w8 ?_) | (with_reducible refine z6 ?_) | (with_reducible refine x6 ?_) | (with_reducible refine r9 ?_) | (refine z9 ?_))) <;>(first | rfl | exact PV.le.refl _ | (simp;done) | (refine le_of_eq ?_;simp;done))))
set_option maxHeartbeats 8000000 in
theorem b2V (C:Laid P) (s:F2) (w K A B N:Int) (S:List UInt8) (o:Ob) (ko:j7 P G e6 [C6 K A B N S,.sl 7 (List.map j9 s.heap)] [] (aO o)) (hw:w.tmod 8=6) (h6:o.kind=6→¬ 0<o.len) (h7:o.kind=7→¬ 0<o.len) (h9:o.kind≠9):j7 P G i7 [.agg [.int .u8 w,.int .u8 K,.int .u8 A,.int .u8 B,.int .i32 N,.str S],aS s] [] (aS s):=by
 refine i5 C (k8 C) rfl ?_
 repeat' ((conv=>whnf);first | (with_reducible refine sC (by kernel_rfl) ?_) | ((first | (with_reducible first | refine sB ?_ | refine o8 ?_ | refine o7 ?_) | refine sP (by rfl) ?_);first | refine Or.inl ⟨by first | assumption | (simp only [nm,List.length_map,hw];first | done | assumption | omega),?_⟩ | refine Or.inr (Or.inl ⟨by first | assumption | (simp only [nm,List.length_map,hw];first | done | assumption | omega),?_⟩) | (refine Or.inr (Or.inr ⟨fun hsp=>?_,fun hsp=>?_⟩) <;>(try simp only [nm,List.length_map,hw] at hsp) <;>try subst hsp)) | refine ⟨_,_,ko,?_⟩ | fail)
 all_goals (conv=>whnf)
 all_goals (first | exact PV.le.refl _ | (exfalso;omega) | (exfalso;grind))
end Go.Ab.Td
namespace Go.Ab.Td
set_option maxRecDepth 100000
set_option maxRecDepth 100000
open Go Go.Ab
variable {P:Program}
set_option linter.unusedSimpArgs false
attribute [local irreducible] f0
set_option maxHeartbeats 8000000 in
theorem b3P (C:Laid P) (s:F2) (w K A B N:Int) (S:List UInt8) (o:Ob) (ko:j7 P G e6 [C6 K A B N S,.sl 7 (List.map j9 s.heap)] [] (aO o)) (hw:w.tmod 8=7) (hl:¬ (o.kind=9∧s.e9.length<20)):j7 P G i7 [.agg [.int .u8 w,.int .u8 K,.int .u8 A,.int .u8 B,.int .i32 N,.str S],aS s] [] (aS {s with f45:=IntKind.i64.wrap (1+IntKind.i64.wrap A)}):=by
 refine i5 C (k8 C) rfl ?_
 repeat' ((conv=>whnf);first | (with_reducible refine sC (by kernel_rfl) ?_) | ((first | (with_reducible first | refine sB ?_ | refine o8 ?_ | refine o7 ?_) | refine sP (by rfl) ?_);first | refine Or.inl ⟨by first | assumption | (simp only [nm,List.length_map,hw];first | done | assumption | omega),?_⟩ | refine Or.inr (Or.inl ⟨by first | assumption | (simp only [nm,List.length_map,hw];first | done | assumption | omega),?_⟩) | (refine Or.inr (Or.inr ⟨fun hsp=>?_,fun hsp=>?_⟩) <;>(try simp only [nm,List.length_map,hw] at hsp) <;>try subst hsp)) | refine ⟨_,_,ko,?_⟩ | fail)
 all_goals (conv=>whnf)
 all_goals (first | exact PV.le.refl _ | (exfalso;omega) | (exfalso;grind))
set_option maxHeartbeats 8000000 in
theorem b4t (C:Laid P) (s:F2) (w K A B N:Int) (S:List UInt8) (o:Ob) (ko:j7 P G e6 [C6 K A B N S,.sl 7 (List.map j9 s.heap)] [] (aO o)) (hw:w.tmod 8=7) (hk:o.kind=9) (hl:s.e9.length<20):j7 P G i7 [.agg [.int .u8 w,.int .u8 K,.int .u8 A,.int .u8 B,.int .i32 N,.str S],aS s] [] (aS {s with f45:=IntKind.i64.wrap (1+IntKind.i64.wrap A),e9:=s.e9++[o]}):=by
 refine i5 C (k8 C) rfl ?_
 repeat' ((conv=>whnf);first | (with_reducible refine sC (by kernel_rfl) ?_) | ((first | (with_reducible first | refine sB ?_ | refine o8 ?_ | refine o7 ?_) | refine sP (by rfl) ?_);first | refine Or.inl ⟨by first | assumption | (simp only [nm,List.length_map,hw,hk];first | done | assumption | omega),?_⟩ | refine Or.inr (Or.inl ⟨by first | assumption | (simp only [nm,List.length_map,hw,hk];first | done | assumption | omega),?_⟩) | (refine Or.inr (Or.inr ⟨fun hsp=>?_,fun hsp=>?_⟩) <;>(try simp only [nm,List.length_map,hw,hk] at hsp) <;>try subst hsp)) | refine ⟨_,_,ko,?_⟩ | refine sS (n9 (f:=i6) (x':=s.e9) (by rfl) (by first | exact e8 | exact d8 | exact d9 (by rfl) (by rfl)) (by rfl) (by (try simp only [ln]);omega)) ?_ | refine sS (m6 (f:=i6) (l:=s.e9) (x':=[o]) (by rfl) (by rfl) (by simp) (by first | exact e8 | exact d8 | exact d9 (by rfl) (by rfl)) (by rfl) (by (try simp only [ln]);omega)) ?_ | fail)
 all_goals (conv=>whnf)
 all_goals (first | (exfalso;omega) | ((repeat' (first | (with_reducible exact PV.le.refl _) | exact PV.le.emp _ | exact H8.nil | (with_reducible refine v3 ?_) | (with_reducible refine o6 ?_) | (refine H8.cons ?_ ?_) | (with_reducible refine k7 ?_) | (with_reducible refine w8 ?_) | (with_reducible refine z6 ?_) | (with_reducible refine x6 ?_) | (with_reducible refine r9 ?_) | (refine z9 ?_))) <;>(first | (rw [a1R (by simp)];done) | exact PV.le.refl _ | rfl | (simp;done) | (refine le_of_eq ?_;simp;done))))
end Go.Ab.Td
namespace Go.Ab.Td
set_option maxRecDepth 100000
set_option maxRecDepth 100000
open Go Go.Ab
variable {P:Program}
set_option linter.unusedSimpArgs false
theorem c2u {h:List Cl} {o:Ob} (hf:fits h o) (hk:o.kind=6) {a:Int} {s:List UInt8} (hr:a2w o a s.length=0):o0 0 (a4V h o a s)=o0 0 h∧S1 h (a4V h o a s):=by
 obtain ⟨h0,h2⟩:=a5J hf.1 hr
 obtain ⟨q1,q2,q3⟩:=V1 hf.1
 obtain ⟨c,hc,ec,hck,hcl⟩:=b2l hf (by rw [hk];decide)
 rw [hk] at hck
 have hck1:c.kind=1:=hck
 have hlen:o.off+o.len≤(c.bytes.length:Int):=by
  have:=hcl (by omega)
  rwa [Cl.length,if_pos hck1] at this
 have e1:(S8 c.bytes (o.off+a).toNat s).length=c.bytes.length:=a6X (by omega)
 unfold a4V
 rw [ec]
 refine ⟨a9O (by unfold Cl.size;dsimp only;rw [e1]) h _ 0 hc,S1.set hc rfl (.inr ?_)⟩
 unfold Cl.length;dsimp only;rw [e1]
theorem c3B {h:List Cl} {o:Ob} (hf:fits h o) (hk:o.kind=7) {a:Int} {l:List Ob} (hr:a2w o a l.length=0):o0 0 (a5s h o a l)=o0 0 h∧S1 h (a5s h o a l):=by
 obtain ⟨h0,h2⟩:=a5J hf.1 hr
 obtain ⟨q1,q2,q3⟩:=V1 hf.1
 obtain ⟨c,hc,ec,hck,hcl⟩:=b2l hf (by rw [hk];decide)
 rw [hk] at hck
 have hck1:c.kind=2:=hck
 have hlen:o.off+o.len≤(c.items.length:Int):=by
  have:=hcl (by omega)
  rwa [Cl.length,if_neg (by omega)] at this
 have e1:(S8 c.items (o.off+a).toNat l).length=c.items.length:=a6X (by omega)
 unfold a5s
 rw [ec]
 refine ⟨a9O (by unfold Cl.size;dsimp only;rw [e1]) h _ 0 hc,S1.set hc rfl (.inr ?_)⟩
 unfold Cl.length;dsimp only;rw [e1]
theorem a8P {h:List Cl} (hn:∀ c ∈ h,nC c) (o:Ob):nC (cellAt h o):=by
 unfold cellAt
 cases hc:h[o.ref.toNat]? with
 | none=>exact ⟨by simp [cl0],by simp [cl0],by simp [cl0]⟩
 | some c=>exact hn c (List.mem_of_getElem? hc)
theorem SH.c9g {h:List Cl} (t:SH h) {o:Ob} (hf:fits h o) (hk:o.kind=6) {a:Int} {s:List UInt8} (hr:a2w o a s.length=0):SH (a4V h o a s)∧S1 h (a4V h o a s):=by
 obtain ⟨e,ho⟩:=c2u hf hk hr
 have el:(a4V h o a s).length=h.length:=by unfold a4V;rw [List.length_set]
 exact ⟨⟨(c4T t.v hf hk hr).1,by rw [el];exact t.len,by rw [e,el];exact t.tot,b8a (c:={cellAt h o with bytes:=S8 (cellAt h o).bytes (o.off+a).toNat s}) t.nc ⟨(a8P t.nc o).1,(a8P t.nc o).2.1,(a8P t.nc o).2.2⟩ _⟩,ho⟩
theorem SH.c9s {h:List Cl} (t:SH h) {o:Ob} (hf:fits h o) (hk:o.kind=7) {a:Int} {l:List Ob} (hl:∀ x ∈ l,fits h x) (hn:∀ x ∈ l,x.n<9223372036854775808) (hr:a2w o a l.length=0):SH (a5s h o a l)∧S1 h (a5s h o a l):=by
 obtain ⟨e,ho⟩:=c3B hf hk hr
 have el:(a5s h o a l).length=h.length:=by unfold a5s;rw [List.length_set]
 refine ⟨⟨(c4v t.v hf hk hl hr).1,by rw [el];exact t.len,by rw [e,el];exact t.tot,b8a (c:={cellAt h o with items:=S8 (cellAt h o).items (o.off+a).toNat l}) t.nc ⟨fun x hx=>?_,(a8P t.nc o).2.1,(a8P t.nc o).2.2⟩ _⟩,ho⟩
 dsimp only at hx
 unfold S8 at hx
 rcases List.mem_append.1 hx with hx | hx
 ·rcases List.mem_append.1 hx with hx | hx
  ·exact (a8P t.nc o).1 x (List.mem_of_mem_take hx)
  ·exact hn x hx
 ·exact (a8P t.nc o).1 x (List.mem_of_mem_drop hx)
def c5t (w:Int) (x:Wd):List PV:=[.int .u8 w,.int .u8 x.K,.int .u8 x.A,.int .u8 x.B,.int .i32 x.N,.str x.S]
theorem c5v {h:List Cl} {o:Ob} (hf:fits h o) (hl:0<o.len):a2w o 0 1=0:=by
 obtain ⟨q1,q2,q3⟩:=V1 hf.1
 unfold a2w
 rw [if_neg]
 rw [wrap_small (by omega) (by omega)]
 omega
theorem c2R:c6z (nmO [110,101,119]):=⟨by simp [nmO],by simp [nmO],c2n _⟩
theorem b7V (C:Laid P) {F:Prop} {m:Nat} {s:F2} {l:List Sn} {ts:List F2} (t:SI F m s l ts) (w:Int) (hw:0≤w∧w<256) (x:Wd) (h3:3≤w.tmod 8):∃ s',SI F m s' l ts∧(∀ p ∈ s'.ops,p ∈ s.ops∨p.kind≠12)∧j7 P G i7 [.agg (c5t w x),aS s] [] (aS s'):=by
 obtain ⟨K,A,B,N,S,hA,hB,hN⟩:=x
 have h7:=Int.tmod_lt_of_pos w (show (0:Int)<8 by decide)
 have ko:=S6 C s.heap t.sh.sm K A B N S hA hB hN
 have fo:=b4E t.sh.vh K A B N hA hB hN
 have on:=b9H s.heap K A B N hA hN
 have ol:=t.ol
 have k12:=b9o s.heap K A B N
 generalize b0c s.heap K A B N=o at ko fo on k12
 have same:∀ p ∈ s.ops,p ∈ s.ops∨p.kind≠12:=fun p hp=>.inl hp
 have hr:w.tmod 8=3∨w.tmod 8=4∨w.tmod 8=5∨w.tmod 8=6∨w.tmod 8=7:=by omega
 rcases hr with hr | hr | hr | hr | hr
 ·by_cases hl:s.ops.length<100
  ·refine ⟨_,t.b5P (ops:=s.ops++[o]) (by simp;omega) (fun hF p hp=>?_) (fun p hp=>?_),fun p hp=>(List.mem_append.1 hp).imp id (fun hq=>by simp only [List.mem_singleton] at hq;subst hq;exact k12),b2U C s w K A B N S o ko hr hl⟩
   ·rcases List.mem_append.1 hp with hp | hp
    ·exact t.of' hF p hp
    ·simp only [List.mem_singleton] at hp;subst hp;exact fo
   ·rcases List.mem_append.1 hp with hp | hp
    ·exact t.on p hp
    ·simp only [List.mem_singleton] at hp;subst hp;exact on
  ·exact ⟨_,t,same,b2v C s w K A B N S o ko hr hl⟩
 ·have r2:0≤A.tmod 2∧A.tmod 2<2:=⟨Int.tmod_nonneg _ hA.1,Int.tmod_lt_of_pos _ (by decide)⟩
  have e:IntKind.i64.wrap (1+IntKind.i64.wrap (A.tmod 2))=1+A.tmod 2:=by rw [wrap_small (v:=A.tmod 2) (by omega) (by omega),wrap_small (by omega) (by omega)]
  obtain ⟨n,hn⟩:∃ n:Nat,(if IntKind.i64.wrap (1+IntKind.i64.wrap (A.tmod 2))<((List.map i6 s.ops).length:Int) then IntKind.i64.wrap (1+IntKind.i64.wrap (A.tmod 2)) else ((List.map i6 s.ops).length:Int))=(n:Int)∧n≤s.ops.length:=by
   rw [e,List.length_map]
   by_cases hl:1+A.tmod 2<(s.ops.length:Int)
   ·rw [if_pos hl];exact ⟨(1+A.tmod 2).toNat,by omega,by omega⟩
   ·rw [if_neg hl];exact ⟨s.ops.length,rfl,Nat.le_refl _⟩
  exact ⟨_,t.b5P (ops:=s.ops.take (s.ops.length - n)) (by rw [List.length_take];omega) (fun hF p hp=>t.of' hF p (List.mem_of_mem_take hp)) (fun p hp=>t.on p (List.mem_of_mem_take hp)),fun p hp=>.inl (List.mem_of_mem_take hp),b3I C s w K A B N S o ko hr n hn.2 ol hn.1⟩
 ·obtain ⟨c,⟨c1,c2,c3,c4⟩,kc⟩:=c0n C t.sh.vh K A B N S hA hB hN
  by_cases hl:s.heap.length<60∧s.ops.length<100
  ·have th:=t.b2b (t.sh.app hl.1 c1 c2 c3 c4) (S1.app s.heap [c])
   by_cases hk:c.kind=1
   ·have hb:=((a7d c2).1 hk).2
    have hi:=((a7d c2).1 hk).1
    refine ⟨_,th.b5P (ops:=s.ops++[(⟨6,false,0,[],(s.heap.length:Int),0,(c.bytes.length:Int)⟩:Ob)]) (by simp;omega) (fun hF p hp=>?_) (fun p hp=>?_),fun p hp=>(List.mem_append.1 hp).imp id (fun hq=>by simp only [List.mem_singleton] at hq;subst hq;simp),b5I C s w K A B N S o ko hr c kc hl.1 hl.2 hk⟩
    ·rcases List.mem_append.1 hp with hp | hp
     ·exact th.of' hF p hp
     ·simp only [List.mem_singleton] at hp;subst hp
      refine ⟨?_,fun _=>⟨c,?_,hk,fun _=>?_⟩⟩
      ·unfold Ob.right Ob.blank;simp;omega
      ·show (s.heap++[c])[((s.heap.length:Int)).toNat]?=some c
       simp
      ·unfold Cl.length;rw [if_pos hk];simp
    ·rcases List.mem_append.1 hp with hp | hp
     ·exact t.on p hp
     ·simp only [List.mem_singleton] at hp;subst hp
      show (0:Int)<_;decide
   ·exact ⟨_,th,same,b3Y C s w K A B N S o ko hr c kc hl.1 hl.2 hk⟩
  ·exact ⟨_,t,same,b1I C s w K A B N S o ko hr c kc hl⟩
 ·by_cases h6:o.kind=6∧0<o.len
  ·have rm:=c5v fo h6.2
   obtain ⟨q1,q2⟩:=t.sh.c9g fo h6.1 (a:=0) (s:=[122]) rm
   exact ⟨_,t.b2b q1 q2,same,b3u C s w K A B N S o ko hr t.sh.sm on h6.1 h6.2 (by unfold a8F;rw [if_neg (fun y=>y fo),if_pos (by rw [h6.1];simp)]) rm⟩
  by_cases h7':o.kind=7∧0<o.len
  ·have rm:=c5v fo h7'.2
   obtain ⟨q1,q2⟩:=t.sh.c9s fo h7'.1 (a:=0) (l:=[o]) (by simpa using fo) (by simpa using on) rm
   exact ⟨_,t.b2b q1 q2,same,b2T C s w K A B N S o ko hr t.sh.sm on h7'.1 h7'.2 (by unfold a8F;rw [if_neg (fun y=>y fo),if_pos (by rw [h7'.1];simp)]) rm⟩
  by_cases h9:o.kind=9
  ·obtain ⟨c,hc,ec,hck, -⟩:=c2A fo h9
   have hrr:=a5t fo.1
   have hlt:=(List.getElem?_eq_some_iff.1 hc).1
   have hm:=List.mem_of_getElem? hc
   cases hp:a2B c (nmO [110,101,119]) o with
   | none=>exact ⟨_,t,same,b0j C s w K A B N S o ko hr t.sh.sm on h9 hrr.1 (by omega) (by rw [ec];exact hp)⟩
   | some c2=>
     obtain ⟨r2,k32,hsz, -⟩:=c0D (t.sh.v.1 c hm) hck c2R (b9e (by decide)) fo hp
     exact ⟨_,t.b2b (t.sh.set hc (by omega) (.inl k32) hsz r2 (c5F (t.sh.nc c hm) (by show (0:Int)<_;decide) on hp)) (S1.set hc (by omega) (.inl k32)),same,b3h C s w K A B N S o ko hr t.sh.sm on h9 hrr.1 (by omega) c2 (by rw [ec];exact hp)⟩
  ·exact ⟨_,t,same,b2V C s w K A B N S o ko hr (fun h=>fun hl=>h6 ⟨h,hl⟩) (fun h=>fun hl=>h7' ⟨h,hl⟩) h9⟩
 ·by_cases h9:o.kind=9∧s.e9.length<20
  ·refine ⟨_,(t.b9L (IntKind.i64.wrap (1+IntKind.i64.wrap A))).c2U (d:=s.e9++[o]) (by simp;omega) (fun hF p hp=>?_),same,b4t C s w K A B N S o ko hr h9.1 h9.2⟩
   rcases List.mem_append.1 hp with hp | hp
   ·exact t.df hF p hp
   ·simp only [List.mem_singleton] at hp;subst hp;exact fo
  ·exact ⟨_,t.b9L (IntKind.i64.wrap (1+IntKind.i64.wrap A)),same,b3P C s w K A B N S o ko hr h9⟩
end Go.Ab.Td
