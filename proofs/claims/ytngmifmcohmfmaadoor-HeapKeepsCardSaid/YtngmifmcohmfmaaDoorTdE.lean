/- Heaps: views. Under: nothing. -/
import Derived.Test.YtngmifmcohmfmaaDoorTdD
namespace Go.Ab.Td
open Go Go.Ab
variable {P : Program}
set_option linter.unusedSimpArgs false
attribute [local irreducible] compat

set_option maxHeartbeats 1000000 in
set_option maxRecDepth 100000 in
theorem ok_slices_Index_int (C : Laid P) (l : List Int) (k : Int) (hl : l.length < 2 ^ 62) : OkC P G n_slices_Index_int [.sl 1 (l.map fun x => [pI x]), pI k] [] (pI (idxInt k 0 l)) := by
  refine ok_fn C (k_slices_Index_int C) rfl ?_
  repeat' (conv => whnf
           first
             | (with_reducible refine sC (by kernel_rfl) ?_)
             | ((with_reducible refine sB ?_); first | refine oT ?_ | refine oF ?_ | (refine Or.inr (Or.inr ⟨fun hsp => ?_, fun hsp => ?_⟩) <;> (try simp only [eqO, Ob.eta, Cl.eta, tt_true, tt_false, decide_eq_true_eq, decide_eq_false_iff_not, beq_iff_eq, beq_eq_false_iff_ne, bne_iff_ne, ne_eq, Bool.not_eq_true, Bool.not_eq_false, Bool.not_eq_eq_eq_not, Bool.not_true, Bool.not_false, Decidable.not_not, Int.not_lt, Int.not_le, gt_iff_lt, ge_iff_le, bne_eq_false_iff_eq] at hsp) <;> try subst hsp))
             | ((with_reducible refine sG0 ?_); first | refine oT ?_ | refine oF ?_ | (refine Or.inr (Or.inr ⟨fun hsp => ?_, fun hsp => ?_⟩) <;> (try simp only [eqO, Ob.eta, Cl.eta, tt_true, tt_false, decide_eq_true_eq, decide_eq_false_iff_not, beq_iff_eq, beq_eq_false_iff_ne, bne_iff_ne, ne_eq, Bool.not_eq_true, Bool.not_eq_false, Bool.not_eq_eq_eq_not, Bool.not_true, Bool.not_false, Decidable.not_not, Int.not_lt, Int.not_le, gt_iff_lt, ge_iff_le, bne_eq_false_iff_eq] at hsp) <;> try subst hsp))
             | ((with_reducible refine sG1 ?_); first | refine oT ?_ | refine oF ?_ | (refine Or.inr (Or.inr ⟨fun hsp => ?_, fun hsp => ?_⟩) <;> (try simp only [eqO, Ob.eta, Cl.eta, tt_true, tt_false, decide_eq_true_eq, decide_eq_false_iff_not, beq_iff_eq, beq_eq_false_iff_ne, bne_iff_ne, ne_eq, Bool.not_eq_true, Bool.not_eq_false, Bool.not_eq_eq_eq_not, Bool.not_true, Bool.not_false, Decidable.not_not, Int.not_lt, Int.not_le, gt_iff_lt, ge_iff_le, bne_eq_false_iff_eq] at hsp) <;> try subst hsp))
             | ((refine sP (by rfl) ?_); first | refine oT ?_ | refine oF ?_ | (refine Or.inr (Or.inr ⟨fun hsp => ?_, fun hsp => ?_⟩) <;> (try simp only [eqO, Ob.eta, Cl.eta, tt_true, tt_false, decide_eq_true_eq, decide_eq_false_iff_not, beq_iff_eq, beq_eq_false_iff_ne, bne_iff_ne, ne_eq, Bool.not_eq_true, Bool.not_eq_false, Bool.not_eq_eq_eq_not, Bool.not_true, Bool.not_false, Decidable.not_not, Int.not_lt, Int.not_le, gt_iff_lt, ge_iff_le, bne_eq_false_iff_eq] at hsp) <;> try subst hsp))
             | fail)
  all_goals (conv => whnf)
  intro X hX hW
  refine loopI hX (fun st (a : Nat) => st.upd [(8, .pv (pI (a : Int)))] []) (fun a m => a + m = l.length ∧ (idxInt k 0 l = idxInt k a (l.drop a))) 0 l.length (by (conv => whnf); first | done | rfl) (by simp) ?_
  intro m i ih hI
  rcases at_or l i with ⟨x, hlt, hx⟩ | hge
  · have hrow := row_map (f := fun x : Int => [pI x]) hx
    have hd := drop_at hx
    have hI2 := hI.2
    rw [hd] at hI2
    simp only [idxInt] at hI2
    repeat' (conv => whnf
             first
               | (with_reducible refine sC (by kernel_rfl) ?_)
               | ((with_reducible refine sB ?_); first | refine oT ?_ | refine oF ?_ | (refine Or.inr (Or.inr ⟨fun hsp => ?_, fun hsp => ?_⟩) <;> (try simp only [eqO, Ob.eta, Cl.eta, tt_true, tt_false, decide_eq_true_eq, decide_eq_false_iff_not, beq_iff_eq, beq_eq_false_iff_ne, bne_iff_ne, ne_eq, Bool.not_eq_true, Bool.not_eq_false, Bool.not_eq_eq_eq_not, Bool.not_true, Bool.not_false, Decidable.not_not, Int.not_lt, Int.not_le, gt_iff_lt, ge_iff_le, bne_eq_false_iff_eq, List.length_map] at hsp) <;> try subst hsp))
               | ((with_reducible refine sG0 ?_); first | refine oT ?_ | refine oF ?_ | (refine Or.inr (Or.inr ⟨fun hsp => ?_, fun hsp => ?_⟩) <;> (try simp only [eqO, Ob.eta, Cl.eta, tt_true, tt_false, decide_eq_true_eq, decide_eq_false_iff_not, beq_iff_eq, beq_eq_false_iff_ne, bne_iff_ne, ne_eq, Bool.not_eq_true, Bool.not_eq_false, Bool.not_eq_eq_eq_not, Bool.not_true, Bool.not_false, Decidable.not_not, Int.not_lt, Int.not_le, gt_iff_lt, ge_iff_le, bne_eq_false_iff_eq, List.length_map] at hsp) <;> try subst hsp))
               | ((with_reducible refine sG1 ?_); first | refine oT ?_ | refine oF ?_ | (refine Or.inr (Or.inr ⟨fun hsp => ?_, fun hsp => ?_⟩) <;> (try simp only [eqO, Ob.eta, Cl.eta, tt_true, tt_false, decide_eq_true_eq, decide_eq_false_iff_not, beq_iff_eq, beq_eq_false_iff_ne, bne_iff_ne, ne_eq, Bool.not_eq_true, Bool.not_eq_false, Bool.not_eq_eq_eq_not, Bool.not_true, Bool.not_false, Decidable.not_not, Int.not_lt, Int.not_le, gt_iff_lt, ge_iff_le, bne_eq_false_iff_eq, List.length_map] at hsp) <;> try subst hsp))
               | ((refine sP (by rfl) ?_); first | refine oT ?_ | refine oF ?_ | (refine Or.inr (Or.inr ⟨fun hsp => ?_, fun hsp => ?_⟩) <;> (try simp only [eqO, Ob.eta, Cl.eta, tt_true, tt_false, decide_eq_true_eq, decide_eq_false_iff_not, beq_iff_eq, beq_eq_false_iff_ne, bne_iff_ne, ne_eq, Bool.not_eq_true, Bool.not_eq_false, Bool.not_eq_eq_eq_not, Bool.not_true, Bool.not_false, Decidable.not_not, Int.not_lt, Int.not_le, gt_iff_lt, ge_iff_le, bne_eq_false_iff_eq, List.length_map] at hsp) <;> try subst hsp))
               | refine sS (iaddr_at (by rfl) (by rfl) (by omega) hrow) ?_
               | fail)
    all_goals (conv => whnf)
    all_goals first
      | (refine ih (m - 1) (i + 1) _ (by omega) ⟨by (try dsimp only); omega, ?_⟩ (by (conv => whnf); first | done | rfl | (simp (disch := omega) only [wrap_succ])))
      | (with_reducible first | refine le_int ?_ | refine tt_T ?_ | refine tt_F ?_)
      | (refine tt_B ?_; simp only [eqO, Ob.eta, Cl.eta, tt_true, tt_false, decide_eq_true_eq, decide_eq_false_iff_not, beq_iff_eq, beq_eq_false_iff_ne, bne_iff_ne, ne_eq, Bool.not_eq_true, Bool.not_eq_false, Bool.not_eq_eq_eq_not, Bool.not_true, Bool.not_false, Decidable.not_not, Int.not_lt, Int.not_le, gt_iff_lt, ge_iff_le, bne_eq_false_iff_eq])
      | refine le_of_eq ?_
    all_goals grind
  · have hd : l.drop i = [] := List.drop_eq_nil_of_le hge
    have hI2 := hI.2
    rw [hd] at hI2
    simp only [idxInt] at hI2
    repeat' (conv => whnf
             first
               | (with_reducible refine sC (by kernel_rfl) ?_)
               | ((with_reducible refine sB ?_); first | refine oT ?_ | refine oF ?_ | (refine Or.inr (Or.inr ⟨fun hsp => ?_, fun hsp => ?_⟩) <;> (try simp only [eqO, Ob.eta, Cl.eta, tt_true, tt_false, decide_eq_true_eq, decide_eq_false_iff_not, beq_iff_eq, beq_eq_false_iff_ne, bne_iff_ne, ne_eq, Bool.not_eq_true, Bool.not_eq_false, Bool.not_eq_eq_eq_not, Bool.not_true, Bool.not_false, Decidable.not_not, Int.not_lt, Int.not_le, gt_iff_lt, ge_iff_le, bne_eq_false_iff_eq, List.length_map] at hsp) <;> try subst hsp))
               | ((with_reducible refine sG0 ?_); first | refine oT ?_ | refine oF ?_ | (refine Or.inr (Or.inr ⟨fun hsp => ?_, fun hsp => ?_⟩) <;> (try simp only [eqO, Ob.eta, Cl.eta, tt_true, tt_false, decide_eq_true_eq, decide_eq_false_iff_not, beq_iff_eq, beq_eq_false_iff_ne, bne_iff_ne, ne_eq, Bool.not_eq_true, Bool.not_eq_false, Bool.not_eq_eq_eq_not, Bool.not_true, Bool.not_false, Decidable.not_not, Int.not_lt, Int.not_le, gt_iff_lt, ge_iff_le, bne_eq_false_iff_eq, List.length_map] at hsp) <;> try subst hsp))
               | ((with_reducible refine sG1 ?_); first | refine oT ?_ | refine oF ?_ | (refine Or.inr (Or.inr ⟨fun hsp => ?_, fun hsp => ?_⟩) <;> (try simp only [eqO, Ob.eta, Cl.eta, tt_true, tt_false, decide_eq_true_eq, decide_eq_false_iff_not, beq_iff_eq, beq_eq_false_iff_ne, bne_iff_ne, ne_eq, Bool.not_eq_true, Bool.not_eq_false, Bool.not_eq_eq_eq_not, Bool.not_true, Bool.not_false, Decidable.not_not, Int.not_lt, Int.not_le, gt_iff_lt, ge_iff_le, bne_eq_false_iff_eq, List.length_map] at hsp) <;> try subst hsp))
               | ((refine sP (by rfl) ?_); first | refine oT ?_ | refine oF ?_ | (refine Or.inr (Or.inr ⟨fun hsp => ?_, fun hsp => ?_⟩) <;> (try simp only [eqO, Ob.eta, Cl.eta, tt_true, tt_false, decide_eq_true_eq, decide_eq_false_iff_not, beq_iff_eq, beq_eq_false_iff_ne, bne_iff_ne, ne_eq, Bool.not_eq_true, Bool.not_eq_false, Bool.not_eq_eq_eq_not, Bool.not_true, Bool.not_false, Decidable.not_not, Int.not_lt, Int.not_le, gt_iff_lt, ge_iff_le, bne_eq_false_iff_eq, List.length_map] at hsp) <;> try subst hsp))
               | fail)
    all_goals (conv => whnf)
    all_goals first
      | (with_reducible first | refine le_int ?_ | refine tt_T ?_ | refine tt_F ?_)
      | (refine tt_B ?_; simp only [eqO, Ob.eta, Cl.eta, tt_true, tt_false, decide_eq_true_eq, decide_eq_false_iff_not, beq_iff_eq, beq_eq_false_iff_ne, bne_iff_ne, ne_eq, Bool.not_eq_true, Bool.not_eq_false, Bool.not_eq_eq_eq_not, Bool.not_true, Bool.not_false, Decidable.not_not, Int.not_lt, Int.not_le, gt_iff_lt, ge_iff_le, bne_eq_false_iff_eq])
      | refine le_of_eq ?_
    all_goals grind

set_option maxHeartbeats 1000000 in
set_option maxRecDepth 100000 in
theorem ok_slices_Contains_int (C : Laid P) (l : List Int) (k : Int) (hl : l.length < 2 ^ 62) : OkC P G n_slices_Contains_int [.sl 1 (l.map fun x => [pI x]), pI k] [] (.bool (tt (k ∈ l))) := by
  refine ok_fn C (k_slices_Contains_int C) rfl ?_
  repeat' (conv => whnf
           first
             | (with_reducible refine sC (by kernel_rfl) ?_)
             | ((with_reducible refine sB ?_); first | refine oT ?_ | refine oF ?_ | (refine Or.inr (Or.inr ⟨fun hsp => ?_, fun hsp => ?_⟩) <;> (try simp only [eqO, Ob.eta, Cl.eta, tt_true, tt_false, decide_eq_true_eq, decide_eq_false_iff_not, beq_iff_eq, beq_eq_false_iff_ne, bne_iff_ne, ne_eq, Bool.not_eq_true, Bool.not_eq_false, Bool.not_eq_eq_eq_not, Bool.not_true, Bool.not_false, Decidable.not_not, Int.not_lt, Int.not_le, gt_iff_lt, ge_iff_le, bne_eq_false_iff_eq] at hsp) <;> try subst hsp))
             | ((with_reducible refine sG0 ?_); first | refine oT ?_ | refine oF ?_ | (refine Or.inr (Or.inr ⟨fun hsp => ?_, fun hsp => ?_⟩) <;> (try simp only [eqO, Ob.eta, Cl.eta, tt_true, tt_false, decide_eq_true_eq, decide_eq_false_iff_not, beq_iff_eq, beq_eq_false_iff_ne, bne_iff_ne, ne_eq, Bool.not_eq_true, Bool.not_eq_false, Bool.not_eq_eq_eq_not, Bool.not_true, Bool.not_false, Decidable.not_not, Int.not_lt, Int.not_le, gt_iff_lt, ge_iff_le, bne_eq_false_iff_eq] at hsp) <;> try subst hsp))
             | ((with_reducible refine sG1 ?_); first | refine oT ?_ | refine oF ?_ | (refine Or.inr (Or.inr ⟨fun hsp => ?_, fun hsp => ?_⟩) <;> (try simp only [eqO, Ob.eta, Cl.eta, tt_true, tt_false, decide_eq_true_eq, decide_eq_false_iff_not, beq_iff_eq, beq_eq_false_iff_ne, bne_iff_ne, ne_eq, Bool.not_eq_true, Bool.not_eq_false, Bool.not_eq_eq_eq_not, Bool.not_true, Bool.not_false, Decidable.not_not, Int.not_lt, Int.not_le, gt_iff_lt, ge_iff_le, bne_eq_false_iff_eq] at hsp) <;> try subst hsp))
             | ((refine sP (by rfl) ?_); first | refine oT ?_ | refine oF ?_ | (refine Or.inr (Or.inr ⟨fun hsp => ?_, fun hsp => ?_⟩) <;> (try simp only [eqO, Ob.eta, Cl.eta, tt_true, tt_false, decide_eq_true_eq, decide_eq_false_iff_not, beq_iff_eq, beq_eq_false_iff_ne, bne_iff_ne, ne_eq, Bool.not_eq_true, Bool.not_eq_false, Bool.not_eq_eq_eq_not, Bool.not_true, Bool.not_false, Decidable.not_not, Int.not_lt, Int.not_le, gt_iff_lt, ge_iff_le, bne_eq_false_iff_eq] at hsp) <;> try subst hsp))
             | refine ⟨_, _, ok_slices_Index_int C _ _ hl, ?_⟩
             | fail)
  all_goals (conv => whnf)
  all_goals (first | (with_reducible refine tt_T ?_) | (with_reducible refine tt_F ?_) | (refine tt_B ?_; try simp (disch := omega) only [eqO, Ob.eta, Cl.eta, tt_true, tt_false, decide_eq_true_eq, decide_eq_false_iff_not, beq_iff_eq, beq_eq_false_iff_ne, bne_iff_ne, ne_eq, Bool.not_eq_true, Bool.not_eq_false, Bool.not_eq_eq_eq_not, Bool.not_true, Bool.not_false, Decidable.not_not, Int.not_lt, Int.not_le, gt_iff_lt, ge_iff_le, bne_eq_false_iff_eq, wrap_small])) <;> (exact idxInt_mem k l 0)

set_option maxHeartbeats 1000000 in
set_option maxRecDepth 100000 in
theorem ok_heap_viewOf (C : Laid P) (h : List Cl) (o : Ob) (ks : List Int) (ho : o.n < 9223372036854775808) (hl : ks.length < 2 ^ 62) (hv : vErr h o ks = 0) : OkC P G n_heap_viewOf [.sl 7 (List.map encC h), aO o, .sl 1 (ks.map fun x => [pI x])] [] (.tup [.agg (.sl 7 (List.map encC h) :: encO o), pI 0]) := by
  refine ok_fn C (k_heap_viewOf C) rfl ?_
  obtain ⟨hf, hk⟩ := vErr_ok hv
  repeat' (conv => whnf
           first
             | (with_reducible refine sC (by kernel_rfl) ?_)
             | ((with_reducible refine sB ?_); first | refine oT ?_ | refine oF ?_ | (refine Or.inr (Or.inr ⟨fun hsp => ?_, fun hsp => ?_⟩) <;> (try simp only [eqO, Ob.eta, Cl.eta, tt_true, tt_false, decide_eq_true_eq, decide_eq_false_iff_not, beq_iff_eq, beq_eq_false_iff_ne, bne_iff_ne, ne_eq, Bool.not_eq_true, Bool.not_eq_false, Bool.not_eq_eq_eq_not, Bool.not_true, Bool.not_false, Decidable.not_not, Int.not_lt, Int.not_le, gt_iff_lt, ge_iff_le, bne_eq_false_iff_eq] at hsp) <;> try subst hsp))
             | ((with_reducible refine sG0 ?_); first | refine oT ?_ | refine oF ?_ | (refine Or.inr (Or.inr ⟨fun hsp => ?_, fun hsp => ?_⟩) <;> (try simp only [eqO, Ob.eta, Cl.eta, tt_true, tt_false, decide_eq_true_eq, decide_eq_false_iff_not, beq_iff_eq, beq_eq_false_iff_ne, bne_iff_ne, ne_eq, Bool.not_eq_true, Bool.not_eq_false, Bool.not_eq_eq_eq_not, Bool.not_true, Bool.not_false, Decidable.not_not, Int.not_lt, Int.not_le, gt_iff_lt, ge_iff_le, bne_eq_false_iff_eq] at hsp) <;> try subst hsp))
             | ((with_reducible refine sG1 ?_); first | refine oT ?_ | refine oF ?_ | (refine Or.inr (Or.inr ⟨fun hsp => ?_, fun hsp => ?_⟩) <;> (try simp only [eqO, Ob.eta, Cl.eta, tt_true, tt_false, decide_eq_true_eq, decide_eq_false_iff_not, beq_iff_eq, beq_eq_false_iff_ne, bne_iff_ne, ne_eq, Bool.not_eq_true, Bool.not_eq_false, Bool.not_eq_eq_eq_not, Bool.not_true, Bool.not_false, Decidable.not_not, Int.not_lt, Int.not_le, gt_iff_lt, ge_iff_le, bne_eq_false_iff_eq] at hsp) <;> try subst hsp))
             | ((refine sP (by rfl) ?_); first | refine oT ?_ | refine oF ?_ | (refine Or.inr (Or.inr ⟨fun hsp => ?_, fun hsp => ?_⟩) <;> (try simp only [eqO, Ob.eta, Cl.eta, tt_true, tt_false, decide_eq_true_eq, decide_eq_false_iff_not, beq_iff_eq, beq_eq_false_iff_ne, bne_iff_ne, ne_eq, Bool.not_eq_true, Bool.not_eq_false, Bool.not_eq_eq_eq_not, Bool.not_true, Bool.not_false, Decidable.not_not, Int.not_lt, Int.not_le, gt_iff_lt, ge_iff_le, bne_eq_false_iff_eq] at hsp) <;> try subst hsp))
             | refine ⟨_, _, ok_heap_Fits_f C _ _ _ _ _ _ _ _ (by assumption), ?_⟩
             | refine ⟨_, _, ok_slices_Contains_int C _ _ hl, ?_⟩
             | fail)
  all_goals (conv => whnf)
  all_goals (repeat' (first | (with_reducible exact PV.le.refl _) | exact PV.le.emp _ | exact LeL.nil | (with_reducible refine le_tup ?_) | (with_reducible refine le_agg ?_) | (refine LeL.cons ?_ ?_) | (with_reducible refine le_int ?_) | (with_reducible refine le_str ?_) | (with_reducible refine tt_T ?_) | (with_reducible refine tt_F ?_) | (with_reducible refine le_sle ?_) | (refine tt_B ?_))) <;> first | rfl | exact PV.le.refl _ | grind
set_option maxHeartbeats 1000000 in
set_option maxRecDepth 100000 in
theorem ok_heap_viewOf_bad (C : Laid P) (h : List Cl) (o : Ob) (ks : List Int) (ho : o.n < 9223372036854775808) (hl : ks.length < 2 ^ 62) (hv : vErr h o ks ≠ 0) : OkC P G n_heap_viewOf [.sl 7 (List.map encC h), aO o, .sl 1 (ks.map fun x => [pI x])] [] (.tup [.agg (.sl 7 [] :: encO ob0), pI (vErr h o ks)]) := by
  refine ok_fn C (k_heap_viewOf C) rfl ?_
  have hb := vErr_bad hv
  repeat' (conv => whnf
           first
             | (with_reducible refine sC (by kernel_rfl) ?_)
             | ((with_reducible refine sB ?_); first | refine oT ?_ | refine oF ?_ | (refine Or.inr (Or.inr ⟨fun hsp => ?_, fun hsp => ?_⟩) <;> (try simp only [eqO, Ob.eta, Cl.eta, tt_true, tt_false, decide_eq_true_eq, decide_eq_false_iff_not, beq_iff_eq, beq_eq_false_iff_ne, bne_iff_ne, ne_eq, Bool.not_eq_true, Bool.not_eq_false, Bool.not_eq_eq_eq_not, Bool.not_true, Bool.not_false, Decidable.not_not, Int.not_lt, Int.not_le, gt_iff_lt, ge_iff_le, bne_eq_false_iff_eq] at hsp) <;> try subst hsp))
             | ((with_reducible refine sG0 ?_); first | refine oT ?_ | refine oF ?_ | (refine Or.inr (Or.inr ⟨fun hsp => ?_, fun hsp => ?_⟩) <;> (try simp only [eqO, Ob.eta, Cl.eta, tt_true, tt_false, decide_eq_true_eq, decide_eq_false_iff_not, beq_iff_eq, beq_eq_false_iff_ne, bne_iff_ne, ne_eq, Bool.not_eq_true, Bool.not_eq_false, Bool.not_eq_eq_eq_not, Bool.not_true, Bool.not_false, Decidable.not_not, Int.not_lt, Int.not_le, gt_iff_lt, ge_iff_le, bne_eq_false_iff_eq] at hsp) <;> try subst hsp))
             | ((with_reducible refine sG1 ?_); first | refine oT ?_ | refine oF ?_ | (refine Or.inr (Or.inr ⟨fun hsp => ?_, fun hsp => ?_⟩) <;> (try simp only [eqO, Ob.eta, Cl.eta, tt_true, tt_false, decide_eq_true_eq, decide_eq_false_iff_not, beq_iff_eq, beq_eq_false_iff_ne, bne_iff_ne, ne_eq, Bool.not_eq_true, Bool.not_eq_false, Bool.not_eq_eq_eq_not, Bool.not_true, Bool.not_false, Decidable.not_not, Int.not_lt, Int.not_le, gt_iff_lt, ge_iff_le, bne_eq_false_iff_eq] at hsp) <;> try subst hsp))
             | ((refine sP (by rfl) ?_); first | refine oT ?_ | refine oF ?_ | (refine Or.inr (Or.inr ⟨fun hsp => ?_, fun hsp => ?_⟩) <;> (try simp only [eqO, Ob.eta, Cl.eta, tt_true, tt_false, decide_eq_true_eq, decide_eq_false_iff_not, beq_iff_eq, beq_eq_false_iff_ne, bne_iff_ne, ne_eq, Bool.not_eq_true, Bool.not_eq_false, Bool.not_eq_eq_eq_not, Bool.not_true, Bool.not_false, Decidable.not_not, Int.not_lt, Int.not_le, gt_iff_lt, ge_iff_le, bne_eq_false_iff_eq] at hsp) <;> try subst hsp))
             | refine ⟨_, _, ok_heap_Fits_f C _ _ _ _ _ _ _ _ (by assumption), ?_⟩
             | refine ⟨_, _, ok_slices_Contains_int C _ _ hl, ?_⟩
             | fail)
  all_goals (conv => whnf)
  all_goals (first | (exfalso; grind) | ((repeat' (first | (with_reducible exact PV.le.refl _) | exact PV.le.emp _ | exact LeL.nil | (with_reducible refine le_tup ?_) | (with_reducible refine le_agg ?_) | (refine LeL.cons ?_ ?_) | (with_reducible refine le_int ?_) | (with_reducible refine le_str ?_) | (with_reducible refine tt_T ?_) | (with_reducible refine tt_F ?_) | (with_reducible refine le_sle ?_) | (refine tt_B ?_))) <;> first | rfl | exact PV.le.refl _ | grind))
set_option maxHeartbeats 1000000 in
set_option maxRecDepth 100000 in
theorem ok_heap_view_cell (C : Laid P) (h : List Cl) (o : Ob) (h0 : 0 ≤ o.ref) (h1 : o.ref < h.length) : OkC P G n_heap_view_cell [.agg (.sl 7 (List.map encC h) :: encO o)] [] (aC (cellAt h o)) := by
  refine ok_fn C (k_heap_view_cell C) rfl ?_
  repeat' (conv => whnf
           first
             | (with_reducible refine sC (by kernel_rfl) ?_)
             | ((with_reducible refine sB ?_); first | refine oT ?_ | refine oF ?_ | (refine Or.inr (Or.inr ⟨fun hsp => ?_, fun hsp => ?_⟩) <;> (try simp only [eqO, Ob.eta, Cl.eta, tt_true, tt_false, decide_eq_true_eq, decide_eq_false_iff_not, beq_iff_eq, beq_eq_false_iff_ne, bne_iff_ne, ne_eq, Bool.not_eq_true, Bool.not_eq_false, Bool.not_eq_eq_eq_not, Bool.not_true, Bool.not_false, Decidable.not_not, Int.not_lt, Int.not_le, gt_iff_lt, ge_iff_le, bne_eq_false_iff_eq] at hsp) <;> try subst hsp))
             | ((with_reducible refine sG0 ?_); first | refine oT ?_ | refine oF ?_ | (refine Or.inr (Or.inr ⟨fun hsp => ?_, fun hsp => ?_⟩) <;> (try simp only [eqO, Ob.eta, Cl.eta, tt_true, tt_false, decide_eq_true_eq, decide_eq_false_iff_not, beq_iff_eq, beq_eq_false_iff_ne, bne_iff_ne, ne_eq, Bool.not_eq_true, Bool.not_eq_false, Bool.not_eq_eq_eq_not, Bool.not_true, Bool.not_false, Decidable.not_not, Int.not_lt, Int.not_le, gt_iff_lt, ge_iff_le, bne_eq_false_iff_eq] at hsp) <;> try subst hsp))
             | ((with_reducible refine sG1 ?_); first | refine oT ?_ | refine oF ?_ | (refine Or.inr (Or.inr ⟨fun hsp => ?_, fun hsp => ?_⟩) <;> (try simp only [eqO, Ob.eta, Cl.eta, tt_true, tt_false, decide_eq_true_eq, decide_eq_false_iff_not, beq_iff_eq, beq_eq_false_iff_ne, bne_iff_ne, ne_eq, Bool.not_eq_true, Bool.not_eq_false, Bool.not_eq_eq_eq_not, Bool.not_true, Bool.not_false, Decidable.not_not, Int.not_lt, Int.not_le, gt_iff_lt, ge_iff_le, bne_eq_false_iff_eq] at hsp) <;> try subst hsp))
             | ((refine sP (by rfl) ?_); first | refine oT ?_ | refine oF ?_ | (refine Or.inr (Or.inr ⟨fun hsp => ?_, fun hsp => ?_⟩) <;> (try simp only [eqO, Ob.eta, Cl.eta, tt_true, tt_false, decide_eq_true_eq, decide_eq_false_iff_not, beq_iff_eq, beq_eq_false_iff_ne, bne_iff_ne, ne_eq, Bool.not_eq_true, Bool.not_eq_false, Bool.not_eq_eq_eq_not, Bool.not_true, Bool.not_false, Decidable.not_not, Int.not_lt, Int.not_le, gt_iff_lt, ge_iff_le, bne_eq_false_iff_eq] at hsp) <;> try subst hsp))
             | refine sS (iaddr_at (by rfl) (by rfl) (by omega) (row_at (d := cl0) (by omega) (by omega))) ?_
             | fail)
  all_goals (conv => whnf)
  all_goals (exact PV.le.refl _)
set_option maxHeartbeats 1000000 in
set_option maxRecDepth 100000 in
theorem ok_heap_view_with (C : Laid P) (h : List Cl) (o : Ob) (c : Cl) (h0 : 0 ≤ o.ref) (h1 : o.ref < h.length) (hl : h.length ≤ 1000000) : OkC P G n_heap_view_with [.agg (.sl 7 (List.map encC h) :: encO o), aC c] [] (.sl 7 (List.map encC (h.set o.ref.toNat c))) := by
  refine ok_fn C (k_heap_view_with C) rfl ?_
  repeat' (conv => whnf
           first
             | (with_reducible refine sC (by kernel_rfl) ?_)
             | ((with_reducible refine sB ?_); first | refine oT ?_ | refine oF ?_ | (refine Or.inr (Or.inr ⟨fun hsp => ?_, fun hsp => ?_⟩) <;> (try simp only [eqO, Ob.eta, Cl.eta, tt_true, tt_false, decide_eq_true_eq, decide_eq_false_iff_not, beq_iff_eq, beq_eq_false_iff_ne, bne_iff_ne, ne_eq, Bool.not_eq_true, Bool.not_eq_false, Bool.not_eq_eq_eq_not, Bool.not_true, Bool.not_false, Decidable.not_not, Int.not_lt, Int.not_le, gt_iff_lt, ge_iff_le, bne_eq_false_iff_eq] at hsp) <;> try subst hsp))
             | ((with_reducible refine sG0 ?_); first | refine oT ?_ | refine oF ?_ | (refine Or.inr (Or.inr ⟨fun hsp => ?_, fun hsp => ?_⟩) <;> (try simp only [eqO, Ob.eta, Cl.eta, tt_true, tt_false, decide_eq_true_eq, decide_eq_false_iff_not, beq_iff_eq, beq_eq_false_iff_ne, bne_iff_ne, ne_eq, Bool.not_eq_true, Bool.not_eq_false, Bool.not_eq_eq_eq_not, Bool.not_true, Bool.not_false, Decidable.not_not, Int.not_lt, Int.not_le, gt_iff_lt, ge_iff_le, bne_eq_false_iff_eq] at hsp) <;> try subst hsp))
             | ((with_reducible refine sG1 ?_); first | refine oT ?_ | refine oF ?_ | (refine Or.inr (Or.inr ⟨fun hsp => ?_, fun hsp => ?_⟩) <;> (try simp only [eqO, Ob.eta, Cl.eta, tt_true, tt_false, decide_eq_true_eq, decide_eq_false_iff_not, beq_iff_eq, beq_eq_false_iff_ne, bne_iff_ne, ne_eq, Bool.not_eq_true, Bool.not_eq_false, Bool.not_eq_eq_eq_not, Bool.not_true, Bool.not_false, Decidable.not_not, Int.not_lt, Int.not_le, gt_iff_lt, ge_iff_le, bne_eq_false_iff_eq] at hsp) <;> try subst hsp))
             | ((refine sP (by rfl) ?_); first | refine oT ?_ | refine oF ?_ | (refine Or.inr (Or.inr ⟨fun hsp => ?_, fun hsp => ?_⟩) <;> (try simp only [eqO, Ob.eta, Cl.eta, tt_true, tt_false, decide_eq_true_eq, decide_eq_false_iff_not, beq_iff_eq, beq_eq_false_iff_ne, bne_iff_ne, ne_eq, Bool.not_eq_true, Bool.not_eq_false, Bool.not_eq_eq_eq_not, Bool.not_true, Bool.not_false, Decidable.not_not, Int.not_lt, Int.not_le, gt_iff_lt, ge_iff_le, bne_eq_false_iff_eq] at hsp) <;> try subst hsp))
             | refine sS (mksl_at (by rfl) (by omega) (by simp only [List.length_map]; omega) (by rfl) (by decide)) ?_
             | refine sS (copy_M (by rfl) (by rfl) prows_pv (by simp) (by simp)) ?_
             | refine sS (iaddr_o (by rfl) (by rfl) (by rfl) (by omega) (by simp only [List.length_map]; omega)) ?_
             | refine sS (store_M (c := c) (by rfl) (by rfl) (by omega) (fun _ => rfl) (by rfl) (by rfl) (by rfl)) ?_
             | fail)
  all_goals (conv => whnf)
  all_goals (refine le_sle ?_; simp; exact List.take_of_length_le (by simp))
set_option maxHeartbeats 1000000 in
set_option maxRecDepth 100000 in
theorem ok_heap_replaced_Obj (C : Laid P) (l x : List Ob) (i : Int) (h0 : 0 ≤ i) (h1 : i + x.length ≤ l.length) (hl : l.length ≤ 1000000) : OkC P G n_heap_replaced_Obj [.sl 7 (List.map encO l), pI i, .sl 7 (List.map encO x)] [] (.sl 7 (List.map encO (repl l i.toNat x))) := by
  refine ok_fn C (k_heap_replaced_Obj C) rfl ?_
  repeat' (conv => whnf
           first
             | (with_reducible refine sC (by kernel_rfl) ?_)
             | ((with_reducible refine sB ?_); first | refine oT ?_ | refine oF ?_ | (refine Or.inr (Or.inr ⟨fun hsp => ?_, fun hsp => ?_⟩) <;> (try simp only [eqO, Ob.eta, Cl.eta, tt_true, tt_false, decide_eq_true_eq, decide_eq_false_iff_not, beq_iff_eq, beq_eq_false_iff_ne, bne_iff_ne, ne_eq, Bool.not_eq_true, Bool.not_eq_false, Bool.not_eq_eq_eq_not, Bool.not_true, Bool.not_false, Decidable.not_not, Int.not_lt, Int.not_le, gt_iff_lt, ge_iff_le, bne_eq_false_iff_eq] at hsp) <;> try subst hsp))
             | ((with_reducible refine sG0 ?_); first | refine oT ?_ | refine oF ?_ | (refine Or.inr (Or.inr ⟨fun hsp => ?_, fun hsp => ?_⟩) <;> (try simp only [eqO, Ob.eta, Cl.eta, tt_true, tt_false, decide_eq_true_eq, decide_eq_false_iff_not, beq_iff_eq, beq_eq_false_iff_ne, bne_iff_ne, ne_eq, Bool.not_eq_true, Bool.not_eq_false, Bool.not_eq_eq_eq_not, Bool.not_true, Bool.not_false, Decidable.not_not, Int.not_lt, Int.not_le, gt_iff_lt, ge_iff_le, bne_eq_false_iff_eq] at hsp) <;> try subst hsp))
             | ((with_reducible refine sG1 ?_); first | refine oT ?_ | refine oF ?_ | (refine Or.inr (Or.inr ⟨fun hsp => ?_, fun hsp => ?_⟩) <;> (try simp only [eqO, Ob.eta, Cl.eta, tt_true, tt_false, decide_eq_true_eq, decide_eq_false_iff_not, beq_iff_eq, beq_eq_false_iff_ne, bne_iff_ne, ne_eq, Bool.not_eq_true, Bool.not_eq_false, Bool.not_eq_eq_eq_not, Bool.not_true, Bool.not_false, Decidable.not_not, Int.not_lt, Int.not_le, gt_iff_lt, ge_iff_le, bne_eq_false_iff_eq] at hsp) <;> try subst hsp))
             | ((refine sP (by rfl) ?_); first | refine oT ?_ | refine oF ?_ | (refine Or.inr (Or.inr ⟨fun hsp => ?_, fun hsp => ?_⟩) <;> (try simp only [eqO, Ob.eta, Cl.eta, tt_true, tt_false, decide_eq_true_eq, decide_eq_false_iff_not, beq_iff_eq, beq_eq_false_iff_ne, bne_iff_ne, ne_eq, Bool.not_eq_true, Bool.not_eq_false, Bool.not_eq_eq_eq_not, Bool.not_true, Bool.not_false, Decidable.not_not, Int.not_lt, Int.not_le, gt_iff_lt, ge_iff_le, bne_eq_false_iff_eq] at hsp) <;> try subst hsp))
             | refine sS (mksl_at (by rfl) (by omega) (by simp only [List.length_map]; omega) (by rfl) (by decide)) ?_
             | refine sS (copy_M (by rfl) (by rfl) prows_pv (by simp) (by simp)) ?_
             | refine sS (slice_oM (by rfl) (by rfl) (by rfl) (by omega) (by simp only [List.length_map]; omega) (by simp [SObj.len]) (by rfl)) ?_
             | refine sS (copy_P (by rfl) (by rfl) prows_pv (by simp only [List.length_map]; omega) (by simp only [List.length_map]; omega)) ?_
             | fail)
  all_goals (conv => whnf)
  all_goals (refine le_sle ?_; simp [repl]; first | done | omega | (rw [List.take_of_length_le]; simp; omega))
end Go.Ab.Td
