/- A part of the proof: the texts TdSy, TdSv, TdVz, TdUb. Under: nothing. -/
import Derived.Test.YtngmifmcohmfmaaDoorG19
import Derived.Test.YtngmifmcohmfmaaDoorG12
import Derived.Test.YtngmifmcohmfmaaDoorG11
import Derived.Test.YtngmifmcohmfmaaDoorG16
import Derived.Test.YtngmifmcohmfmaaDoorG10
import Derived.Test.YtngmifmcohmfmaaDoorG17
import Derived.Test.YtngmifmcohmfmaaDoorG18
set_option linter.unusedVariables false
namespace Go.Ab.Td
set_option maxRecDepth 100000
set_option maxRecDepth 100000
open Go Go.Ab
variable {P:Program}
set_option linter.unusedSimpArgs false
attribute [local irreducible] d8
set_option maxHeartbeats 8000000 in
theorem b2j (C:Laid P) (s:B4) (w K A B N:Int) (S:List UInt8) (o:Ob) (ko:j6 P G c9 [B5 K A B N S,.sl 7 (List.map k9 s.heap)] [] (aO o)) (hw:w.tmod 8=6) (hs:small s.heap) (on:o.n<9223372036854775808) (hk:o.kind=6) (hl:0<o.len) (hv:a8l s.heap o [6]=0) (hr:a2m o 0 ([122]:List UInt8).length=0):j6 P G i3 [.agg [.int .u8 w,.int .u8 K,.int .u8 A,.int .u8 B,.int .i32 N,.str S],aS s] [] (aS {s with heap:=a4O s.heap o 0 [122]}):=by
 refine i7 C (j5 C) rfl ?_
 repeat' ((conv=>whnf);first | (with_reducible refine sC (by kernel_rfl) ?_) | ((first | (with_reducible first | refine sB ?_ | refine x8 ?_ | refine x9 ?_) | refine sP (by rfl) ?_);first | refine Or.inl ⟨by first | assumption | (simp only [nm,List.length_map,hw,hk];first | done | assumption | omega),?_⟩ | refine Or.inr (Or.inl ⟨by first | assumption | (simp only [nm,List.length_map,hw,hk];first | done | assumption | omega),?_⟩) | (refine Or.inr (Or.inr ⟨fun hsp=>?_,fun hsp=>?_⟩) <;>(try simp only [nm,List.length_map,hw,hk] at hsp) <;>try subst hsp)) | refine ⟨_,_,ko,?_⟩ | refine ⟨_,_,a9f C s.heap o hs on 0 [122] (by simp) hv hr,?_⟩ | fail)
 all_goals (conv=>whnf)
 all_goals (first | exact PV.le.refl _ | (exfalso;omega) | ((repeat' (first | (with_reducible exact PV.le.refl _) | exact PV.le.emp _ | exact K3.nil | (with_reducible refine x6 ?_) | (with_reducible refine s7 ?_) | (refine K3.cons ?_ ?_) | (with_reducible refine l8 ?_) | (with_reducible refine y5 ?_) | (with_reducible refine E2 ?_) | (with_reducible refine C7 ?_) | (with_reducible refine u3 ?_) | (refine E7 ?_))) <;>(first | rfl | exact PV.le.refl _ | (simp;done) | (refine le_of_eq ?_;simp;done))))
set_option maxHeartbeats 8000000 in
theorem b2l (C:Laid P) (s:B4) (w K A B N:Int) (S:List UInt8) (o:Ob) (ko:j6 P G c9 [B5 K A B N S,.sl 7 (List.map k9 s.heap)] [] (aO o)) (hw:w.tmod 8=6) (hs:small s.heap) (on:o.n<9223372036854775808) (hk:o.kind=7) (hl:0<o.len) (hv:a8l s.heap o [7,8]=0) (hr:a2m o 0 ([o]:List Ob).length=0):j6 P G i3 [.agg [.int .u8 w,.int .u8 K,.int .u8 A,.int .u8 B,.int .i32 N,.str S],aS s] [] (aS {s with heap:=a4P s.heap o 0 [o]}):=by
 refine i7 C (j5 C) rfl ?_
 repeat' ((conv=>whnf);first | (with_reducible refine sC (by kernel_rfl) ?_) | ((first | (with_reducible first | refine sB ?_ | refine x8 ?_ | refine x9 ?_) | refine sP (by rfl) ?_);first | refine Or.inl ⟨by first | assumption | (simp only [nm,List.length_map,hw,hk];first | done | assumption | omega),?_⟩ | refine Or.inr (Or.inl ⟨by first | assumption | (simp only [nm,List.length_map,hw,hk];first | done | assumption | omega),?_⟩) | (refine Or.inr (Or.inr ⟨fun hsp=>?_,fun hsp=>?_⟩) <;>(try simp only [nm,List.length_map,hw,hk] at hsp) <;>try subst hsp)) | refine ⟨_,_,ko,?_⟩ | refine ⟨_,_,a9g C s.heap o hs on 0 [o] (by simp) hv hr,?_⟩ | fail)
 all_goals (conv=>whnf)
 all_goals (first | exact PV.le.refl _ | (exfalso;omega) | ((repeat' (first | (with_reducible exact PV.le.refl _) | exact PV.le.emp _ | exact K3.nil | (with_reducible refine x6 ?_) | (with_reducible refine s7 ?_) | (refine K3.cons ?_ ?_) | (with_reducible refine l8 ?_) | (with_reducible refine y5 ?_) | (with_reducible refine E2 ?_) | (with_reducible refine C7 ?_) | (with_reducible refine u3 ?_) | (refine E7 ?_))) <;>(first | rfl | exact PV.le.refl _ | (simp;done) | (refine le_of_eq ?_;simp;done))))
set_option maxHeartbeats 8000000 in
theorem b2o (C:Laid P) (s:B4) (w K A B N:Int) (S:List UInt8) (o:Ob) (ko:j6 P G c9 [B5 K A B N S,.sl 7 (List.map k9 s.heap)] [] (aO o)) (hw:w.tmod 8=6) (hs:small s.heap) (on:o.n<9223372036854775808) (hk:o.kind=9) (h0:0≤o.ref) (h1:o.ref<s.heap.length) (c:Cl) (hp:a2l (cellAt s.heap o) (nmO [110,101,119]) o=some c):j6 P G i3 [.agg [.int .u8 w,.int .u8 K,.int .u8 A,.int .u8 B,.int .i32 N,.str S],aS s] [] (aS {s with heap:=s.heap.set o.ref.toNat c}):=by
 refine i7 C (j5 C) rfl ?_
 repeat' ((conv=>whnf);first | (with_reducible refine sC (by kernel_rfl) ?_) | ((first | (with_reducible first | refine sB ?_ | refine x8 ?_ | refine x9 ?_) | refine sP (by rfl) ?_);first | refine Or.inl ⟨by first | assumption | (simp only [nm,List.length_map,hw,hk];first | done | assumption | omega),?_⟩ | refine Or.inr (Or.inl ⟨by first | assumption | (simp only [nm,List.length_map,hw,hk];first | done | assumption | omega),?_⟩) | (refine Or.inr (Or.inr ⟨fun hsp=>?_,fun hsp=>?_⟩) <;>(try simp only [nm,List.length_map,hw,hk] at hsp) <;>try subst hsp)) | refine ⟨_,_,ko,?_⟩ | refine ⟨_,_,b2u C s.heap o (nmO [110,101,119]) o c h0 h1 hs hp,?_⟩ | fail)
 all_goals (conv=>whnf)
 all_goals (first | exact PV.le.refl _ | (exfalso;omega) | ((repeat' (first | (with_reducible exact PV.le.refl _) | exact PV.le.emp _ | exact K3.nil | (with_reducible refine x6 ?_) | (with_reducible refine s7 ?_) | (refine K3.cons ?_ ?_) | (with_reducible refine l8 ?_) | (with_reducible refine y5 ?_) | (with_reducible refine E2 ?_) | (with_reducible refine C7 ?_) | (with_reducible refine u3 ?_) | (refine E7 ?_))) <;>(first | rfl | exact PV.le.refl _ | (simp;done) | (refine le_of_eq ?_;simp;done))))
set_option maxHeartbeats 8000000 in
theorem a9Z (C:Laid P) (s:B4) (w K A B N:Int) (S:List UInt8) (o:Ob) (ko:j6 P G c9 [B5 K A B N S,.sl 7 (List.map k9 s.heap)] [] (aO o)) (hw:w.tmod 8=6) (hs:small s.heap) (on:o.n<9223372036854775808) (hk:o.kind=9) (h0:0≤o.ref) (h1:o.ref<s.heap.length) (hp:a2l (cellAt s.heap o) (nmO [110,101,119]) o=none):j6 P G i3 [.agg [.int .u8 w,.int .u8 K,.int .u8 A,.int .u8 B,.int .i32 N,.str S],aS s] [] (aS s):=by
 refine i7 C (j5 C) rfl ?_
 repeat' ((conv=>whnf);first | (with_reducible refine sC (by kernel_rfl) ?_) | ((first | (with_reducible first | refine sB ?_ | refine x8 ?_ | refine x9 ?_) | refine sP (by rfl) ?_);first | refine Or.inl ⟨by first | assumption | (simp only [nm,List.length_map,hw,hk];first | done | assumption | omega),?_⟩ | refine Or.inr (Or.inl ⟨by first | assumption | (simp only [nm,List.length_map,hw,hk];first | done | assumption | omega),?_⟩) | (refine Or.inr (Or.inr ⟨fun hsp=>?_,fun hsp=>?_⟩) <;>(try simp only [nm,List.length_map,hw,hk] at hsp) <;>try subst hsp)) | refine ⟨_,_,ko,?_⟩ | refine ⟨_,_,a7g C s.heap o (nmO [110,101,119]) o h0 h1 hs hp,?_⟩ | fail)
 all_goals (conv=>whnf)
 all_goals (first | exact PV.le.refl _ | (exfalso;omega) | ((repeat' (first | (with_reducible exact PV.le.refl _) | exact PV.le.emp _ | exact K3.nil | (with_reducible refine x6 ?_) | (with_reducible refine s7 ?_) | (refine K3.cons ?_ ?_) | (with_reducible refine l8 ?_) | (with_reducible refine y5 ?_) | (with_reducible refine E2 ?_) | (with_reducible refine C7 ?_) | (with_reducible refine u3 ?_) | (refine E7 ?_))) <;>(first | rfl | exact PV.le.refl _ | (simp;done) | (refine le_of_eq ?_;simp;done))))
set_option maxHeartbeats 8000000 in
theorem b2n (C:Laid P) (s:B4) (w K A B N:Int) (S:List UInt8) (o:Ob) (ko:j6 P G c9 [B5 K A B N S,.sl 7 (List.map k9 s.heap)] [] (aO o)) (hw:w.tmod 8=6) (h6:o.kind=6→¬ 0<o.len) (h7:o.kind=7→¬ 0<o.len) (h9:o.kind≠9):j6 P G i3 [.agg [.int .u8 w,.int .u8 K,.int .u8 A,.int .u8 B,.int .i32 N,.str S],aS s] [] (aS s):=by
 refine i7 C (j5 C) rfl ?_
 repeat' ((conv=>whnf);first | (with_reducible refine sC (by kernel_rfl) ?_) | ((first | (with_reducible first | refine sB ?_ | refine x8 ?_ | refine x9 ?_) | refine sP (by rfl) ?_);first | refine Or.inl ⟨by first | assumption | (simp only [nm,List.length_map,hw];first | done | assumption | omega),?_⟩ | refine Or.inr (Or.inl ⟨by first | assumption | (simp only [nm,List.length_map,hw];first | done | assumption | omega),?_⟩) | (refine Or.inr (Or.inr ⟨fun hsp=>?_,fun hsp=>?_⟩) <;>(try simp only [nm,List.length_map,hw] at hsp) <;>try subst hsp)) | refine ⟨_,_,ko,?_⟩ | fail)
 all_goals (conv=>whnf)
 all_goals (first | exact PV.le.refl _ | (exfalso;omega) | (exfalso;grind))
end Go.Ab.Td
namespace Go.Ab.Td
set_option maxRecDepth 100000
set_option maxRecDepth 100000
open Go Go.Ab
variable {P:Program}
set_option linter.unusedSimpArgs false
attribute [local irreducible] d8
set_option maxHeartbeats 8000000 in
theorem b3x (C:Laid P) (s:B4) (w K A B N:Int) (S:List UInt8) (o:Ob) (ko:j6 P G c9 [B5 K A B N S,.sl 7 (List.map k9 s.heap)] [] (aO o)) (hw:w.tmod 8=7) (hl:¬ (o.kind=9∧s.d9.length<20)):j6 P G i3 [.agg [.int .u8 w,.int .u8 K,.int .u8 A,.int .u8 B,.int .i32 N,.str S],aS s] [] (aS {s with f45:=IntKind.i64.wrap (1+IntKind.i64.wrap A)}):=by
 refine i7 C (j5 C) rfl ?_
 repeat' ((conv=>whnf);first | (with_reducible refine sC (by kernel_rfl) ?_) | ((first | (with_reducible first | refine sB ?_ | refine x8 ?_ | refine x9 ?_) | refine sP (by rfl) ?_);first | refine Or.inl ⟨by first | assumption | (simp only [nm,List.length_map,hw];first | done | assumption | omega),?_⟩ | refine Or.inr (Or.inl ⟨by first | assumption | (simp only [nm,List.length_map,hw];first | done | assumption | omega),?_⟩) | (refine Or.inr (Or.inr ⟨fun hsp=>?_,fun hsp=>?_⟩) <;>(try simp only [nm,List.length_map,hw] at hsp) <;>try subst hsp)) | refine ⟨_,_,ko,?_⟩ | fail)
 all_goals (conv=>whnf)
 all_goals (first | exact PV.le.refl _ | (exfalso;omega) | (exfalso;grind))
set_option maxHeartbeats 8000000 in
theorem b3w (C:Laid P) (s:B4) (w K A B N:Int) (S:List UInt8) (o:Ob) (ko:j6 P G c9 [B5 K A B N S,.sl 7 (List.map k9 s.heap)] [] (aO o)) (hw:w.tmod 8=7) (hk:o.kind=9) (hl:s.d9.length<20):j6 P G i3 [.agg [.int .u8 w,.int .u8 K,.int .u8 A,.int .u8 B,.int .i32 N,.str S],aS s] [] (aS {s with f45:=IntKind.i64.wrap (1+IntKind.i64.wrap A),d9:=s.d9++[o]}):=by
 refine i7 C (j5 C) rfl ?_
 repeat' ((conv=>whnf);first | (with_reducible refine sC (by kernel_rfl) ?_) | ((first | (with_reducible first | refine sB ?_ | refine x8 ?_ | refine x9 ?_) | refine sP (by rfl) ?_);first | refine Or.inl ⟨by first | assumption | (simp only [nm,List.length_map,hw,hk];first | done | assumption | omega),?_⟩ | refine Or.inr (Or.inl ⟨by first | assumption | (simp only [nm,List.length_map,hw,hk];first | done | assumption | omega),?_⟩) | (refine Or.inr (Or.inr ⟨fun hsp=>?_,fun hsp=>?_⟩) <;>(try simp only [nm,List.length_map,hw,hk] at hsp) <;>try subst hsp)) | refine ⟨_,_,ko,?_⟩ | refine sS (o9 (f:=g9) (x':=s.d9) (by rfl) (by first | exact e9 | exact d6 | exact d7 (by rfl) (by rfl)) (by rfl) (by (try simp only [ln]);omega)) ?_ | refine sS (m7 (f:=g9) (l:=s.d9) (x':=[o]) (by rfl) (by rfl) (by simp) (by first | exact e9 | exact d6 | exact d7 (by rfl) (by rfl)) (by rfl) (by (try simp only [ln]);omega)) ?_ | fail)
 all_goals (conv=>whnf)
 all_goals (first | (exfalso;omega) | ((repeat' (first | (with_reducible exact PV.le.refl _) | exact PV.le.emp _ | exact K3.nil | (with_reducible refine x6 ?_) | (with_reducible refine s7 ?_) | (refine K3.cons ?_ ?_) | (with_reducible refine l8 ?_) | (with_reducible refine y5 ?_) | (with_reducible refine E2 ?_) | (with_reducible refine C7 ?_) | (with_reducible refine u3 ?_) | (refine E7 ?_))) <;>(first | (rw [a1D (by simp)];done) | exact PV.le.refl _ | rfl | (simp;done) | (refine le_of_eq ?_;simp;done))))
end Go.Ab.Td
namespace Go.Ab.Td
set_option maxRecDepth 100000
set_option maxRecDepth 100000
open Go Go.Ab
variable {P:Program}
set_option linter.unusedSimpArgs false
theorem c2R {h:List Cl} {o:Ob} (hf:fits h o) (hk:o.kind=6) {a:Int} {s:List UInt8} (hr:a2m o a s.length=0):r9 0 (a4O h o a s)=r9 0 h∧Q6 h (a4O h o a s):=by
 obtain ⟨h0,h2⟩:=a5z hf.1 hr
 obtain ⟨q1,q2,q3⟩:=a0i hf.1
 obtain ⟨c,hc,ec,hck,hcl⟩:=b1j hf (by rw [hk];decide)
 rw [hk] at hck
 have hck1:c.kind=1:=hck
 have hlen:o.off+o.len≤(c.bytes.length:Int):=by
  have:=hcl (by omega)
  rwa [Cl.length,if_pos hck1] at this
 have e1:(R4 c.bytes (o.off+a).toNat s).length=c.bytes.length:=a6E (by omega)
 unfold a4O
 rw [ec]
 refine ⟨a9x (by unfold Cl.size;dsimp only;rw [e1]) h _ 0 hc,Q6.set hc rfl (.inr ?_)⟩
 unfold Cl.length;dsimp only;rw [e1]
theorem c2S {h:List Cl} {o:Ob} (hf:fits h o) (hk:o.kind=7) {a:Int} {l:List Ob} (hr:a2m o a l.length=0):r9 0 (a4P h o a l)=r9 0 h∧Q6 h (a4P h o a l):=by
 obtain ⟨h0,h2⟩:=a5z hf.1 hr
 obtain ⟨q1,q2,q3⟩:=a0i hf.1
 obtain ⟨c,hc,ec,hck,hcl⟩:=b1j hf (by rw [hk];decide)
 rw [hk] at hck
 have hck1:c.kind=2:=hck
 have hlen:o.off+o.len≤(c.items.length:Int):=by
  have:=hcl (by omega)
  rwa [Cl.length,if_neg (by omega)] at this
 have e1:(R4 c.items (o.off+a).toNat l).length=c.items.length:=a6E (by omega)
 unfold a4P
 rw [ec]
 refine ⟨a9x (by unfold Cl.size;dsimp only;rw [e1]) h _ 0 hc,Q6.set hc rfl (.inr ?_)⟩
 unfold Cl.length;dsimp only;rw [e1]
theorem a7Y {h:List Cl} (hn:∀ c ∈ h,nC c) (o:Ob):nC (cellAt h o):=by
 unfold cellAt
 cases hc:h[o.ref.toNat]? with
 | none=>exact ⟨by simp [cl0],by simp [cl0],by simp [cl0]⟩
 | some c=>exact hn c (List.mem_of_getElem? hc)
theorem SH.c7V {h:List Cl} (t:SH h) {o:Ob} (hf:fits h o) (hk:o.kind=6) {a:Int} {s:List UInt8} (hr:a2m o a s.length=0):SH (a4O h o a s)∧Q6 h (a4O h o a s):=by
 obtain ⟨e,ho⟩:=c2R hf hk hr
 have el:(a4O h o a s).length=h.length:=by unfold a4O;rw [List.length_set]
 exact ⟨⟨(c3x t.v hf hk hr).1,by rw [el];exact t.len,by rw [e,el];exact t.tot,b7x (c:={cellAt h o with bytes:=R4 (cellAt h o).bytes (o.off+a).toNat s}) t.nc ⟨(a7Y t.nc o).1,(a7Y t.nc o).2.1,(a7Y t.nc o).2.2⟩ _⟩,ho⟩
theorem SH.c7W {h:List Cl} (t:SH h) {o:Ob} (hf:fits h o) (hk:o.kind=7) {a:Int} {l:List Ob} (hl:∀ x ∈ l,fits h x) (hn:∀ x ∈ l,x.n<9223372036854775808) (hr:a2m o a l.length=0):SH (a4P h o a l)∧Q6 h (a4P h o a l):=by
 obtain ⟨e,ho⟩:=c2S hf hk hr
 have el:(a4P h o a l).length=h.length:=by unfold a4P;rw [List.length_set]
 refine ⟨⟨(c3y t.v hf hk hl hr).1,by rw [el];exact t.len,by rw [e,el];exact t.tot,b7x (c:={cellAt h o with items:=R4 (cellAt h o).items (o.off+a).toNat l}) t.nc ⟨fun x hx=>?_,(a7Y t.nc o).2.1,(a7Y t.nc o).2.2⟩ _⟩,ho⟩
 dsimp only at hx
 unfold R4 at hx
 rcases List.mem_append.1 hx with hx | hx
 ·rcases List.mem_append.1 hx with hx | hx
  ·exact (a7Y t.nc o).1 x (List.mem_of_mem_take hx)
  ·exact hn x hx
 ·exact (a7Y t.nc o).1 x (List.mem_of_mem_drop hx)
def c4H (w:Int) (x:Wd):List PV:=[.int .u8 w,.int .u8 x.K,.int .u8 x.A,.int .u8 x.B,.int .i32 x.N,.str x.S]
theorem c4C {h:List Cl} {o:Ob} (hf:fits h o) (hl:0<o.len):a2m o 0 1=0:=by
 obtain ⟨q1,q2,q3⟩:=a0i hf.1
 unfold a2m
 rw [if_neg]
 rw [wrap_small (by omega) (by omega)]
 omega
theorem c1N:c5o (nmO [110,101,119]):=⟨by simp [nmO],by simp [nmO],c1O _⟩
theorem b7T (C:Laid P) {F:Prop} {m:Nat} {s:B4} {l:List Sn} {ts:List B4} (t:SI F m s l ts) (w:Int) (hw:0≤w∧w<256) (x:Wd) (h3:3≤w.tmod 8):∃ s',SI F m s' l ts∧(∀ p ∈ s'.ops,p ∈ s.ops∨p.kind≠12)∧j6 P G i3 [.agg (c4H w x),aS s] [] (aS s'):=by
 obtain ⟨K,A,B,N,S,hA,hB,hN⟩:=x
 have h7:=Int.tmod_lt_of_pos w (show (0:Int)<8 by decide)
 have ko:=J5 C s.heap t.sh.sm K A B N S hA hB hN
 have fo:=b3V t.sh.vh K A B N hA hB hN
 have on:=b6w s.heap K A B N hA hN
 have ol:=t.ol
 have k12:=b5f s.heap K A B N
 generalize a8a s.heap K A B N=o at ko fo on k12
 have same:∀ p ∈ s.ops,p ∈ s.ops∨p.kind≠12:=fun p hp=>.inl hp
 have hr:w.tmod 8=3∨w.tmod 8=4∨w.tmod 8=5∨w.tmod 8=6∨w.tmod 8=7:=by omega
 rcases hr with hr | hr | hr | hr | hr
 ·by_cases hl:s.ops.length<100
  ·refine ⟨_,t.b0l (ops:=s.ops++[o]) (by simp;omega) (fun hF p hp=>?_) (fun p hp=>?_),fun p hp=>(List.mem_append.1 hp).imp id (fun hq=>by simp only [List.mem_singleton] at hq;subst hq;exact k12),b2m C s w K A B N S o ko hr hl⟩
   ·rcases List.mem_append.1 hp with hp | hp
    ·exact t.of' hF p hp
    ·simp only [List.mem_singleton] at hp;subst hp;exact fo
   ·rcases List.mem_append.1 hp with hp | hp
    ·exact t.on p hp
    ·simp only [List.mem_singleton] at hp;subst hp;exact on
  ·exact ⟨_,t,same,b2k C s w K A B N S o ko hr hl⟩
 ·have r2:0≤A.tmod 2∧A.tmod 2<2:=⟨Int.tmod_nonneg _ hA.1,Int.tmod_lt_of_pos _ (by decide)⟩
  have e:IntKind.i64.wrap (1+IntKind.i64.wrap (A.tmod 2))=1+A.tmod 2:=by rw [wrap_small (v:=A.tmod 2) (by omega) (by omega),wrap_small (by omega) (by omega)]
  obtain ⟨n,hn⟩:∃ n:Nat,(if IntKind.i64.wrap (1+IntKind.i64.wrap (A.tmod 2))<((List.map g9 s.ops).length:Int) then IntKind.i64.wrap (1+IntKind.i64.wrap (A.tmod 2)) else ((List.map g9 s.ops).length:Int))=(n:Int)∧n≤s.ops.length:=by
   rw [e,List.length_map]
   by_cases hl:1+A.tmod 2<(s.ops.length:Int)
   ·rw [if_pos hl];exact ⟨(1+A.tmod 2).toNat,by omega,by omega⟩
   ·rw [if_neg hl];exact ⟨s.ops.length,rfl,Nat.le_refl _⟩
  exact ⟨_,t.b0l (ops:=s.ops.take (s.ops.length - n)) (by rw [List.length_take];omega) (fun hF p hp=>t.of' hF p (List.mem_of_mem_take hp)) (fun p hp=>t.on p (List.mem_of_mem_take hp)),fun p hp=>.inl (List.mem_of_mem_take hp),b3y C s w K A B N S o ko hr n hn.2 ol hn.1⟩
 ·obtain ⟨c,⟨c1,c2,c3,c4⟩,kc⟩:=b9X C t.sh.vh K A B N S hA hB hN
  by_cases hl:s.heap.length<60∧s.ops.length<100
  ·have th:=t.b1A (t.sh.app hl.1 c1 c2 c3 c4) (Q6.app s.heap [c])
   by_cases hk:c.kind=1
   ·have hb:=((a5Y c2).1 hk).2
    have hi:=((a5Y c2).1 hk).1
    refine ⟨_,th.b0l (ops:=s.ops++[(⟨6,false,0,[],(s.heap.length:Int),0,(c.bytes.length:Int)⟩:Ob)]) (by simp;omega) (fun hF p hp=>?_) (fun p hp=>?_),fun p hp=>(List.mem_append.1 hp).imp id (fun hq=>by simp only [List.mem_singleton] at hq;subst hq;simp),b5g C s w K A B N S o ko hr c kc hl.1 hl.2 hk⟩
    ·rcases List.mem_append.1 hp with hp | hp
     ·exact th.of' hF p hp
     ·simp only [List.mem_singleton] at hp;subst hp
      refine ⟨?_,fun _=>⟨c,?_,hk,fun _=>?_⟩⟩
      ·unfold Ob.right Ob.blank;simp;omega
      ·show (s.heap++[c])[((s.heap.length:Int)).toNat]?=some c
       simp
      ·unfold Cl.length;rw [if_pos hk];simp
    ·rcases List.mem_append.1 hp with hp | hp
     ·exact t.on p hp
     ·simp only [List.mem_singleton] at hp;subst hp
      show (0:Int)<_;decide
   ·exact ⟨_,th,same,b3v C s w K A B N S o ko hr c kc hl.1 hl.2 hk⟩
  ·exact ⟨_,t,same,b0V C s w K A B N S o ko hr c kc hl⟩
 ·by_cases h6:o.kind=6∧0<o.len
  ·have rm:=c4C fo h6.2
   obtain ⟨q1,q2⟩:=t.sh.c7V fo h6.1 (a:=0) (s:=[122]) rm
   exact ⟨_,t.b1A q1 q2,same,b2j C s w K A B N S o ko hr t.sh.sm on h6.1 h6.2 (by unfold a8l;rw [if_neg (fun y=>y fo),if_pos (by rw [h6.1];simp)]) rm⟩
  by_cases h7':o.kind=7∧0<o.len
  ·have rm:=c4C fo h7'.2
   obtain ⟨q1,q2⟩:=t.sh.c7W fo h7'.1 (a:=0) (l:=[o]) (by simpa using fo) (by simpa using on) rm
   exact ⟨_,t.b1A q1 q2,same,b2l C s w K A B N S o ko hr t.sh.sm on h7'.1 h7'.2 (by unfold a8l;rw [if_neg (fun y=>y fo),if_pos (by rw [h7'.1];simp)]) rm⟩
  by_cases h9:o.kind=9
  ·obtain ⟨c,hc,ec,hck, -⟩:=c1v fo h9
   have hrr:=a6W fo.1
   have hlt:=(List.getElem?_eq_some_iff.1 hc).1
   have hm:=List.mem_of_getElem? hc
   cases hp:a2l c (nmO [110,101,119]) o with
   | none=>exact ⟨_,t,same,a9Z C s w K A B N S o ko hr t.sh.sm on h9 hrr.1 (by omega) (by rw [ec];exact hp)⟩
   | some c2=>
     obtain ⟨r2,k32,hsz, -⟩:=c0j (t.sh.v.1 c hm) hck c1N (b8V (by decide)) fo hp
     exact ⟨_,t.b1A (t.sh.set hc (by omega) (.inl k32) hsz r2 (c5s (t.sh.nc c hm) (by show (0:Int)<_;decide) on hp)) (Q6.set hc (by omega) (.inl k32)),same,b2o C s w K A B N S o ko hr t.sh.sm on h9 hrr.1 (by omega) c2 (by rw [ec];exact hp)⟩
  ·exact ⟨_,t,same,b2n C s w K A B N S o ko hr (fun h=>fun hl=>h6 ⟨h,hl⟩) (fun h=>fun hl=>h7' ⟨h,hl⟩) h9⟩
 ·by_cases h9:o.kind=9∧s.d9.length<20
  ·refine ⟨_,(t.b9n (IntKind.i64.wrap (1+IntKind.i64.wrap A))).c2h (d:=s.d9++[o]) (by simp;omega) (fun hF p hp=>?_),same,b3w C s w K A B N S o ko hr h9.1 h9.2⟩
   rcases List.mem_append.1 hp with hp | hp
   ·exact t.df hF p hp
   ·simp only [List.mem_singleton] at hp;subst hp;exact fo
  ·exact ⟨_,t.b9n (IntKind.i64.wrap (1+IntKind.i64.wrap A)),same,b3x C s w K A B N S o ko hr h9⟩
end Go.Ab.Td
namespace Go.Ab.Td
set_option maxRecDepth 100000
set_option maxRecDepth 100000
open Go Go.Ab
variable {P:Program}
set_option linter.unusedSimpArgs false
attribute [local irreducible] d8
set_option maxHeartbeats 8000000 in
theorem b0X (C:Laid P) (s:B4) (h:10≤s.f3.length∨20≤s.f62.length):j6 P G q8 [aS s,.str [115,97,118,101]] [] (.v9 [aS s,pI 26]):=by
 refine i7 C (D3 C) rfl ?_
 repeat' ((conv=>whnf);first | (with_reducible refine sC (by kernel_rfl) ?_) | ((first | (with_reducible first | refine sB ?_ | refine x8 ?_ | refine x9 ?_) | refine sP (by rfl) ?_);first | refine oT ?_ | refine oF ?_ | (refine Or.inr (Or.inr ⟨fun hsp=>?_,fun hsp=>?_⟩) <;>(try simp only [nm,List.length_map] at hsp) <;>try subst hsp)) | fail)
 all_goals (conv=>whnf)
 all_goals (first | exact PV.le.refl _ | (exfalso;omega))
set_option maxHeartbeats 8000000 in
theorem b6y (C:Laid P) (s:B4) (l:List Sn) (ts:List B4) (hq:s.f3=l.map u1) (h62:s.f62=ts.map grO) (h3:l.length<10) (ht:ts.length<20) (ho:s.ops.length<100):j6 P G q8 [aS s,.str [115,97,118,101]] [] (.v9 [aS (svS s),pI 0]):=by
 refine i7 C (D3 C) rfl ?_
 have hl3:s.f3.length=l.length:=by rw [hq,List.length_map]
 have hl62:s.f62.length=ts.length:=by rw [h62,List.length_map]
 have kI:=F0 C s 0 [svO (IntKind.i64.wrap (s.f4+1))] (by decide) (by omega) (by simp;omega) (by omega) (by simp)
 rw [show s.ops.take (s.ops.length - (0:Int).toNat)=s.ops by simp] at kI
 repeat' ((conv=>whnf);first | (with_reducible refine sC (by kernel_rfl) ?_) | ((first | (with_reducible first | refine sB ?_ | refine x8 ?_ | refine x9 ?_) | refine sP (by rfl) ?_);first | refine Or.inl ⟨by first | assumption | (simp only [nm,List.length_map,hl3,hl62];first | done | assumption | omega),?_⟩ | refine Or.inr (Or.inl ⟨by first | assumption | (simp only [nm,List.length_map,hl3,hl62];first | done | assumption | omega),?_⟩) | (refine Or.inr (Or.inr ⟨fun hsp=>?_,fun hsp=>?_⟩) <;>(try simp only [nm,List.length_map,hl3,hl62] at hsp) <;>try subst hsp)) | refine ⟨_,_,kI,?_⟩ | refine sS (o9 (f:=u1) (x':=l) (by rfl) (by first | exact e9 | exact d6 | exact d7 (by rfl) (by rfl)) hq (by (try simp only [ln]);omega)) ?_ | refine sS (m7 (f:=u1) (l:=l) (x':=[(⟨IntKind.i64.wrap (s.f4+1),s.heap,(s.f62.length:Int)⟩:Sn)]) (by rfl) (by rfl) (by first | rfl | simp) (by first | exact e9 | exact d6 | exact d7 (by rfl) (by rfl)) (by rfl) (by (try simp only [ln]);omega)) ?_ | refine sS (o9 (f:=grO) (x':=ts) (by rfl) (by first | exact e9 | exact d6 | exact d7 (by rfl) (by rfl)) h62 (by (try simp only [ln]);omega)) ?_ | refine sS (m7 (f:=grO) (l:=ts) (x':=[s]) (by rfl) (by rfl) (by first | rfl | simp) (by first | exact e9 | exact d6 | exact d7 (by rfl) (by rfl)) (by rfl) (by (try simp only [ln]);omega)) ?_ | fail)
 all_goals (conv=>whnf)
 all_goals ((repeat' (first | (with_reducible exact PV.le.refl _) | exact PV.le.emp _ | exact K3.nil | (with_reducible refine x6 ?_) | (with_reducible refine s7 ?_) | (refine K3.cons ?_ ?_) | (with_reducible refine l8 ?_) | (with_reducible refine y5 ?_) | (with_reducible refine E2 ?_) | (with_reducible refine C7 ?_) | (with_reducible refine u3 ?_) | (refine E7 ?_))) <;>(first | rfl | exact PV.le.refl _ | (rw [a1D (by simp)];simp [svS,u1,hq];done) | (rw [a1D (by simp)];simp [svS,h62];done) | (simp [grO,svS,svO,u1,hq,h62];done) | (refine le_of_eq ?_;simp [grO,svS,svO,u1,hq,h62];done)))
end Go.Ab.Td
