/- Lists of objects, totals. Under: nothing. -/
import Derived.Test.YtngmifmcohmfmaaDoorTdA
namespace Go.Ab.Td
open Go Go.Ab
variable {P : Program}
set_option linter.unusedSimpArgs false
attribute [local irreducible] compat

set_option maxHeartbeats 1000000 in
set_option maxRecDepth 100000 in
theorem ok_slices_Index_Obj (C : Laid P) (l : List Ob) (o : Ob) (hl : l.length < 2 ^ 62) : OkC P G n_slices_Index_Obj [.sl 7 (List.map encO l), aO o] [] (pI (idxFrom o 0 l)) := by
  refine ok_fn C (k_slices_Index_Obj C) rfl ?_
  repeat' (conv => whnf
           first
             | (with_reducible refine sC (by kernel_rfl) ?_)
             | ((with_reducible refine sB ?_); first | refine oT ?_ | refine oF ?_ | (refine Or.inr (Or.inr ⟨fun hsp => ?_, fun hsp => ?_⟩) <;> (try simp only [eqO, Ob.eta, Cl.eta, tt_true, tt_false, decide_eq_true_eq, decide_eq_false_iff_not, beq_iff_eq, beq_eq_false_iff_ne, bne_iff_ne, ne_eq, Bool.not_eq_true, Bool.not_eq_false, Bool.not_eq_eq_eq_not, Bool.not_true, Bool.not_false, Decidable.not_not, Int.not_lt, Int.not_le, gt_iff_lt, ge_iff_le, bne_eq_false_iff_eq] at hsp) <;> try subst hsp))
             | ((with_reducible refine sG0 ?_); first | refine oT ?_ | refine oF ?_ | (refine Or.inr (Or.inr ⟨fun hsp => ?_, fun hsp => ?_⟩) <;> (try simp only [eqO, Ob.eta, Cl.eta, tt_true, tt_false, decide_eq_true_eq, decide_eq_false_iff_not, beq_iff_eq, beq_eq_false_iff_ne, bne_iff_ne, ne_eq, Bool.not_eq_true, Bool.not_eq_false, Bool.not_eq_eq_eq_not, Bool.not_true, Bool.not_false, Decidable.not_not, Int.not_lt, Int.not_le, gt_iff_lt, ge_iff_le, bne_eq_false_iff_eq] at hsp) <;> try subst hsp))
             | ((with_reducible refine sG1 ?_); first | refine oT ?_ | refine oF ?_ | (refine Or.inr (Or.inr ⟨fun hsp => ?_, fun hsp => ?_⟩) <;> (try simp only [eqO, Ob.eta, Cl.eta, tt_true, tt_false, decide_eq_true_eq, decide_eq_false_iff_not, beq_iff_eq, beq_eq_false_iff_ne, bne_iff_ne, ne_eq, Bool.not_eq_true, Bool.not_eq_false, Bool.not_eq_eq_eq_not, Bool.not_true, Bool.not_false, Decidable.not_not, Int.not_lt, Int.not_le, gt_iff_lt, ge_iff_le, bne_eq_false_iff_eq] at hsp) <;> try subst hsp))
             | ((refine sP (by rfl) ?_); first | refine oT ?_ | refine oF ?_ | (refine Or.inr (Or.inr ⟨fun hsp => ?_, fun hsp => ?_⟩) <;> (try simp only [eqO, Ob.eta, Cl.eta, tt_true, tt_false, decide_eq_true_eq, decide_eq_false_iff_not, beq_iff_eq, beq_eq_false_iff_ne, bne_iff_ne, ne_eq, Bool.not_eq_true, Bool.not_eq_false, Bool.not_eq_eq_eq_not, Bool.not_true, Bool.not_false, Decidable.not_not, Int.not_lt, Int.not_le, gt_iff_lt, ge_iff_le, bne_eq_false_iff_eq] at hsp) <;> try subst hsp))
             | fail)
  all_goals (conv => whnf)
  intro X hX hW
  refine loopI hX (fun st (a : Nat) => st.upd [(8, .pv (pI (a : Int)))] []) (fun a m => a + m = l.length ∧ (idxFrom o 0 l = idxFrom o a (l.drop a))) 0 l.length (by (conv => whnf); first | done | rfl) (by simp) ?_
  intro m i ih hI
  rcases at_or l i with ⟨x, hlt, hx⟩ | hge
  · have hrow := row_map (f := encO) hx
    have hd := drop_at hx
    have hI2 := hI.2
    rw [hd] at hI2
    simp only [idxFrom] at hI2
    repeat' (conv => whnf
             first
               | (with_reducible refine sC (by kernel_rfl) ?_)
               | ((with_reducible refine sB ?_); first | refine oT ?_ | refine oF ?_ | (refine Or.inr (Or.inr ⟨fun hsp => ?_, fun hsp => ?_⟩) <;> (try simp only [eqO, Ob.eta, Cl.eta, tt_true, tt_false, decide_eq_true_eq, decide_eq_false_iff_not, beq_iff_eq, beq_eq_false_iff_ne, bne_iff_ne, ne_eq, Bool.not_eq_true, Bool.not_eq_false, Bool.not_eq_eq_eq_not, Bool.not_true, Bool.not_false, Decidable.not_not, Int.not_lt, Int.not_le, gt_iff_lt, ge_iff_le, bne_eq_false_iff_eq, List.length_map] at hsp) <;> try subst hsp))
               | ((with_reducible refine sG0 ?_); first | refine oT ?_ | refine oF ?_ | (refine Or.inr (Or.inr ⟨fun hsp => ?_, fun hsp => ?_⟩) <;> (try simp only [eqO, Ob.eta, Cl.eta, tt_true, tt_false, decide_eq_true_eq, decide_eq_false_iff_not, beq_iff_eq, beq_eq_false_iff_ne, bne_iff_ne, ne_eq, Bool.not_eq_true, Bool.not_eq_false, Bool.not_eq_eq_eq_not, Bool.not_true, Bool.not_false, Decidable.not_not, Int.not_lt, Int.not_le, gt_iff_lt, ge_iff_le, bne_eq_false_iff_eq, List.length_map] at hsp) <;> try subst hsp))
               | ((with_reducible refine sG1 ?_); first | refine oT ?_ | refine oF ?_ | (refine Or.inr (Or.inr ⟨fun hsp => ?_, fun hsp => ?_⟩) <;> (try simp only [eqO, Ob.eta, Cl.eta, tt_true, tt_false, decide_eq_true_eq, decide_eq_false_iff_not, beq_iff_eq, beq_eq_false_iff_ne, bne_iff_ne, ne_eq, Bool.not_eq_true, Bool.not_eq_false, Bool.not_eq_eq_eq_not, Bool.not_true, Bool.not_false, Decidable.not_not, Int.not_lt, Int.not_le, gt_iff_lt, ge_iff_le, bne_eq_false_iff_eq, List.length_map] at hsp) <;> try subst hsp))
               | ((refine sP (by rfl) ?_); first | refine oT ?_ | refine oF ?_ | (refine Or.inr (Or.inr ⟨fun hsp => ?_, fun hsp => ?_⟩) <;> (try simp only [eqO, Ob.eta, Cl.eta, tt_true, tt_false, decide_eq_true_eq, decide_eq_false_iff_not, beq_iff_eq, beq_eq_false_iff_ne, bne_iff_ne, ne_eq, Bool.not_eq_true, Bool.not_eq_false, Bool.not_eq_eq_eq_not, Bool.not_true, Bool.not_false, Decidable.not_not, Int.not_lt, Int.not_le, gt_iff_lt, ge_iff_le, bne_eq_false_iff_eq, List.length_map] at hsp) <;> try subst hsp))
               | refine sS (iaddr_at (by rfl) (by rfl) (by omega) hrow) ?_
               | fail)
    all_goals (conv => whnf)
    all_goals first
      | (refine ih (m - 1) (i + 1) _ (by omega) ⟨by (try dsimp only); omega, ?_⟩ (by (conv => whnf); first | done | rfl | (simp (disch := omega) only [wrap_succ])))
      | (with_reducible first | refine le_int ?_ | refine tt_T ?_ | refine tt_F ?_)
      | (refine tt_B ?_; simp only [eqO, Ob.eta, Cl.eta, tt_true, tt_false, decide_eq_true_eq, decide_eq_false_iff_not, beq_iff_eq, beq_eq_false_iff_ne, bne_iff_ne, ne_eq, Bool.not_eq_true, Bool.not_eq_false, Bool.not_eq_eq_eq_not, Bool.not_true, Bool.not_false, Decidable.not_not, Int.not_lt, Int.not_le, gt_iff_lt, ge_iff_le, bne_eq_false_iff_eq])
      | refine le_of_eq ?_
    all_goals grind
  · have hd : l.drop i = [] := List.drop_eq_nil_of_le hge
    have hI2 := hI.2
    rw [hd] at hI2
    simp only [idxFrom] at hI2
    repeat' (conv => whnf
             first
               | (with_reducible refine sC (by kernel_rfl) ?_)
               | ((with_reducible refine sB ?_); first | refine oT ?_ | refine oF ?_ | (refine Or.inr (Or.inr ⟨fun hsp => ?_, fun hsp => ?_⟩) <;> (try simp only [eqO, Ob.eta, Cl.eta, tt_true, tt_false, decide_eq_true_eq, decide_eq_false_iff_not, beq_iff_eq, beq_eq_false_iff_ne, bne_iff_ne, ne_eq, Bool.not_eq_true, Bool.not_eq_false, Bool.not_eq_eq_eq_not, Bool.not_true, Bool.not_false, Decidable.not_not, Int.not_lt, Int.not_le, gt_iff_lt, ge_iff_le, bne_eq_false_iff_eq, List.length_map] at hsp) <;> try subst hsp))
               | ((with_reducible refine sG0 ?_); first | refine oT ?_ | refine oF ?_ | (refine Or.inr (Or.inr ⟨fun hsp => ?_, fun hsp => ?_⟩) <;> (try simp only [eqO, Ob.eta, Cl.eta, tt_true, tt_false, decide_eq_true_eq, decide_eq_false_iff_not, beq_iff_eq, beq_eq_false_iff_ne, bne_iff_ne, ne_eq, Bool.not_eq_true, Bool.not_eq_false, Bool.not_eq_eq_eq_not, Bool.not_true, Bool.not_false, Decidable.not_not, Int.not_lt, Int.not_le, gt_iff_lt, ge_iff_le, bne_eq_false_iff_eq, List.length_map] at hsp) <;> try subst hsp))
               | ((with_reducible refine sG1 ?_); first | refine oT ?_ | refine oF ?_ | (refine Or.inr (Or.inr ⟨fun hsp => ?_, fun hsp => ?_⟩) <;> (try simp only [eqO, Ob.eta, Cl.eta, tt_true, tt_false, decide_eq_true_eq, decide_eq_false_iff_not, beq_iff_eq, beq_eq_false_iff_ne, bne_iff_ne, ne_eq, Bool.not_eq_true, Bool.not_eq_false, Bool.not_eq_eq_eq_not, Bool.not_true, Bool.not_false, Decidable.not_not, Int.not_lt, Int.not_le, gt_iff_lt, ge_iff_le, bne_eq_false_iff_eq, List.length_map] at hsp) <;> try subst hsp))
               | ((refine sP (by rfl) ?_); first | refine oT ?_ | refine oF ?_ | (refine Or.inr (Or.inr ⟨fun hsp => ?_, fun hsp => ?_⟩) <;> (try simp only [eqO, Ob.eta, Cl.eta, tt_true, tt_false, decide_eq_true_eq, decide_eq_false_iff_not, beq_iff_eq, beq_eq_false_iff_ne, bne_iff_ne, ne_eq, Bool.not_eq_true, Bool.not_eq_false, Bool.not_eq_eq_eq_not, Bool.not_true, Bool.not_false, Decidable.not_not, Int.not_lt, Int.not_le, gt_iff_lt, ge_iff_le, bne_eq_false_iff_eq, List.length_map] at hsp) <;> try subst hsp))
               | fail)
    all_goals (conv => whnf)
    all_goals first
      | (with_reducible first | refine le_int ?_ | refine tt_T ?_ | refine tt_F ?_)
      | (refine tt_B ?_; simp only [eqO, Ob.eta, Cl.eta, tt_true, tt_false, decide_eq_true_eq, decide_eq_false_iff_not, beq_iff_eq, beq_eq_false_iff_ne, bne_iff_ne, ne_eq, Bool.not_eq_true, Bool.not_eq_false, Bool.not_eq_eq_eq_not, Bool.not_true, Bool.not_false, Decidable.not_not, Int.not_lt, Int.not_le, gt_iff_lt, ge_iff_le, bne_eq_false_iff_eq])
      | refine le_of_eq ?_
    all_goals grind
set_option maxHeartbeats 1000000 in
set_option maxRecDepth 100000 in
theorem ok_heap_Size (C : Laid P) (c : Cl) : OkC P G n_heap_Size [aC c] [] (pI c.size) := by
  refine ok_fn C (k_heap_Size C) rfl ?_
  repeat' (conv => whnf
           first
             | (with_reducible refine sC (by kernel_rfl) ?_)
             | ((with_reducible refine sB ?_); first | refine oT ?_ | refine oF ?_ | (refine Or.inr (Or.inr ⟨fun hsp => ?_, fun hsp => ?_⟩) <;> (try simp only [eqO, Ob.eta, Cl.eta, tt_true, tt_false, decide_eq_true_eq, decide_eq_false_iff_not, beq_iff_eq, beq_eq_false_iff_ne, bne_iff_ne, ne_eq, Bool.not_eq_true, Bool.not_eq_false, Bool.not_eq_eq_eq_not, Bool.not_true, Bool.not_false, Decidable.not_not, Int.not_lt, Int.not_le, gt_iff_lt, ge_iff_le, bne_eq_false_iff_eq] at hsp) <;> try subst hsp))
             | ((with_reducible refine sG0 ?_); first | refine oT ?_ | refine oF ?_ | (refine Or.inr (Or.inr ⟨fun hsp => ?_, fun hsp => ?_⟩) <;> (try simp only [eqO, Ob.eta, Cl.eta, tt_true, tt_false, decide_eq_true_eq, decide_eq_false_iff_not, beq_iff_eq, beq_eq_false_iff_ne, bne_iff_ne, ne_eq, Bool.not_eq_true, Bool.not_eq_false, Bool.not_eq_eq_eq_not, Bool.not_true, Bool.not_false, Decidable.not_not, Int.not_lt, Int.not_le, gt_iff_lt, ge_iff_le, bne_eq_false_iff_eq] at hsp) <;> try subst hsp))
             | ((with_reducible refine sG1 ?_); first | refine oT ?_ | refine oF ?_ | (refine Or.inr (Or.inr ⟨fun hsp => ?_, fun hsp => ?_⟩) <;> (try simp only [eqO, Ob.eta, Cl.eta, tt_true, tt_false, decide_eq_true_eq, decide_eq_false_iff_not, beq_iff_eq, beq_eq_false_iff_ne, bne_iff_ne, ne_eq, Bool.not_eq_true, Bool.not_eq_false, Bool.not_eq_eq_eq_not, Bool.not_true, Bool.not_false, Decidable.not_not, Int.not_lt, Int.not_le, gt_iff_lt, ge_iff_le, bne_eq_false_iff_eq] at hsp) <;> try subst hsp))
             | ((refine sP (by rfl) ?_); first | refine oT ?_ | refine oF ?_ | (refine Or.inr (Or.inr ⟨fun hsp => ?_, fun hsp => ?_⟩) <;> (try simp only [eqO, Ob.eta, Cl.eta, tt_true, tt_false, decide_eq_true_eq, decide_eq_false_iff_not, beq_iff_eq, beq_eq_false_iff_ne, bne_iff_ne, ne_eq, Bool.not_eq_true, Bool.not_eq_false, Bool.not_eq_eq_eq_not, Bool.not_true, Bool.not_false, Decidable.not_not, Int.not_lt, Int.not_le, gt_iff_lt, ge_iff_le, bne_eq_false_iff_eq] at hsp) <;> try subst hsp))
             | fail)
  all_goals (conv => whnf)
  all_goals (refine le_int ?_; simp only [Cl.size, List.length_map]; grind [wrap_small])
theorem ok_heap_Size_f (C : Laid P) (c_k : Int) (c_b : List UInt8) (c_i : List Ob) (c_ks : List Ob) (c_vs : List Ob) (c_m : Int) (c_a : Int) : OkC P G n_heap_Size [.agg [.int .i64 c_k, .str c_b, .sl 7 (List.map encO c_i), .sl 7 (List.map encO c_ks), .sl 7 (List.map encO c_vs), .int .i64 c_m, .int .i64 c_a]] [] (pI (⟨c_k, c_b, c_i, c_ks, c_vs, c_m, c_a⟩ : Cl).size) := ok_heap_Size C (⟨c_k, c_b, c_i, c_ks, c_vs, c_m, c_a⟩ : Cl)

end Go.Ab.Td
