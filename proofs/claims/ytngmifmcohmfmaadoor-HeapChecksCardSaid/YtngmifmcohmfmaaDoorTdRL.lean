/- Reading: Items, Len, Interval. Under: nothing. -/
import Derived.Test.YtngmifmcohmfmaaDoorTdRK
import Derived.Test.YtngmifmcohmfmaaDoorTdEr
namespace Go.Ab.Td
open Go Go.Ab
variable {P : Program}
set_option linter.unusedSimpArgs false
attribute [local irreducible] compat
set_option maxHeartbeats 1000000 in
set_option maxRecDepth 100000 in
theorem ok_ref11_sameObjs (C : Laid P) (l1 l2 : List Ob) (hl : l1.length < 2 ^ 62) : OkC P G n_ref11_sameObjs [.sl 7 (List.map encO l1), .sl 7 (List.map encO l2)] [] (.bool (tt (l1 = l2))) := by
  refine ok_fn C (k_ref11_sameObjs C) rfl ?_
  repeat' (conv => whnf
           first
             | (with_reducible refine sC (by kernel_rfl) ?_)
             | ((first | with_reducible refine sB ?_ | with_reducible refine sG0 ?_ | with_reducible refine sG1 ?_ | refine sP (by rfl) ?_); first | refine oT ?_ | refine oF ?_ | (refine Or.inr (Or.inr ⟨fun hsp => ?_, fun hsp => ?_⟩) <;> (try simp only [eqO, Ob.eta, Cl.eta, tt_true, tt_false, decide_eq_true_eq, decide_eq_false_iff_not, beq_iff_eq, beq_eq_false_iff_ne, bne_iff_ne, ne_eq, Bool.not_eq_true, Bool.not_eq_false, Bool.not_eq_eq_eq_not, Bool.not_true, Bool.not_false, Decidable.not_not, Int.not_lt, Int.not_le, gt_iff_lt, ge_iff_le, bne_eq_false_iff_eq, List.length_map] at hsp) <;> try subst hsp))
             | fail)
  all_goals (conv => whnf)
  all_goals try (exact tt_F (by intro e; subst e; simp_all))
  intro X hX hW
  refine loopI hX (fun st (a : Nat) => st.upd [(5, .pv (pI (a : Int)))] []) (fun a m => a + m = l1.length ∧ (l1.length = l2.length ∧ ((l1 = l2) = (l1.drop a = l2.drop a)))) 0 l1.length (by (conv => whnf); first | done | rfl) (by simp; omega) ?_
  intro m i ih hI
  rcases at_or l1 i with ⟨x, hlt, hx⟩ | hge
  · have hrow := row_map (f := encO) hx
    have hd := drop_at hx
    have hI2 := hI.2
    rw [hd] at hI2
    obtain ⟨y, hy⟩ : ∃ y, l2[i]? = some y := ⟨_, List.getElem?_eq_getElem (by omega)⟩
    have hrow2 := row_map (f := encO) hy
    have hd2 := drop_at hy
    rw [hd2, List.cons.injEq] at hI2
    repeat' (conv => whnf
             first
               | (with_reducible refine sC (by kernel_rfl) ?_)
               | ((first | with_reducible refine sB ?_ | with_reducible refine sG0 ?_ | with_reducible refine sG1 ?_ | refine sP (by rfl) ?_); first | refine oT ?_ | refine oF ?_ | (refine Or.inr (Or.inr ⟨fun hsp => ?_, fun hsp => ?_⟩) <;> (try simp only [eqO, Ob.eta, Cl.eta, tt_true, tt_false, decide_eq_true_eq, decide_eq_false_iff_not, beq_iff_eq, beq_eq_false_iff_ne, bne_iff_ne, ne_eq, Bool.not_eq_true, Bool.not_eq_false, Bool.not_eq_eq_eq_not, Bool.not_true, Bool.not_false, Decidable.not_not, Int.not_lt, Int.not_le, gt_iff_lt, ge_iff_le, bne_eq_false_iff_eq, List.length_map] at hsp) <;> try subst hsp))
               | refine sS (iaddr_at (by rfl) (by rfl) (by omega) hrow) ?_
               | refine sS (iaddr_at (by rfl) (by rfl) (by omega) hrow2) ?_
               | fail)
    all_goals (conv => whnf)
    all_goals first
      | (refine ih (m - 1) (i + 1) _ (by omega) ⟨by (try dsimp only); omega, ?_⟩ (by (conv => whnf); first | done | rfl | (simp (disch := omega) only [wrap_succ])))
      | (with_reducible first | refine le_int ?_ | refine tt_T ?_ | refine tt_F ?_)
      | (refine tt_B ?_; simp only [eqO, Ob.eta, Cl.eta, tt_true, tt_false, decide_eq_true_eq, decide_eq_false_iff_not, beq_iff_eq, beq_eq_false_iff_ne, bne_iff_ne, ne_eq, Bool.not_eq_true, Bool.not_eq_false, Bool.not_eq_eq_eq_not, Bool.not_true, Bool.not_false, Decidable.not_not, Int.not_lt, Int.not_le, gt_iff_lt, ge_iff_le, bne_eq_false_iff_eq])
      | refine le_of_eq ?_
    all_goals (first | (have hd2 : l2.drop i = [] := List.drop_eq_nil_of_le (by omega); grind) | grind)
  · have hd : l1.drop i = [] := List.drop_eq_nil_of_le hge
    have hI2 := hI.2
    rw [hd] at hI2
    repeat' (conv => whnf
             first
               | (with_reducible refine sC (by kernel_rfl) ?_)
               | ((first | with_reducible refine sB ?_ | with_reducible refine sG0 ?_ | with_reducible refine sG1 ?_ | refine sP (by rfl) ?_); first | refine oT ?_ | refine oF ?_ | (refine Or.inr (Or.inr ⟨fun hsp => ?_, fun hsp => ?_⟩) <;> (try simp only [eqO, Ob.eta, Cl.eta, tt_true, tt_false, decide_eq_true_eq, decide_eq_false_iff_not, beq_iff_eq, beq_eq_false_iff_ne, bne_iff_ne, ne_eq, Bool.not_eq_true, Bool.not_eq_false, Bool.not_eq_eq_eq_not, Bool.not_true, Bool.not_false, Decidable.not_not, Int.not_lt, Int.not_le, gt_iff_lt, ge_iff_le, bne_eq_false_iff_eq, List.length_map] at hsp) <;> try subst hsp))
               | fail)
    all_goals (conv => whnf)
    all_goals first
      | (with_reducible first | refine le_int ?_ | refine tt_T ?_ | refine tt_F ?_)
      | (refine tt_B ?_; simp only [eqO, Ob.eta, Cl.eta, tt_true, tt_false, decide_eq_true_eq, decide_eq_false_iff_not, beq_iff_eq, beq_eq_false_iff_ne, bne_iff_ne, ne_eq, Bool.not_eq_true, Bool.not_eq_false, Bool.not_eq_eq_eq_not, Bool.not_true, Bool.not_false, Decidable.not_not, Int.not_lt, Int.not_le, gt_iff_lt, ge_iff_le, bne_eq_false_iff_eq])
      | refine le_of_eq ?_
    all_goals (first | (have hd2 : l2.drop i = [] := List.drop_eq_nil_of_le (by omega); grind) | grind)
end Go.Ab.Td
