/- Resources: the request. Under: nothing. -/
import Derived.Test.YtblkalcialfiaaaDoorTdI
namespace Go.Ab.Td
open Go Go.Ab
variable {P : Program}
set_option linter.unusedSimpArgs false
attribute [local irreducible] compat

set_option maxHeartbeats 1000000 in
set_option maxRecDepth 100000 in
theorem ok_asked3 (C : Laid P) (s : Sta) (hs : nOk s) (ha : askE s 3 = 0) : OkC P G n_resource_library_asked [aS s, pI 3] [] (.tup [.agg (encR (hKey s.heap (opA s 3 0)).1 (opA s 3 1) (hKey s.heap (opA s 3 (3 - 1))).1 (dicO s.heap (hKey s.heap (opA s 3 (3 - 1))).1) 3), pI 0]) := by
  refine ok_fn C (k_resource_library_asked C) rfl ?_
  have hw2 : IntKind.i64.wrap (3 - 1) = 2 := by decide
  have e0 : ((s.ops.drop (s.ops.length - (3 : Int).toNat))[(0 : Int).toNat]?).getD ob0 = opA s 3 0 := rfl
  have e1 : ((s.ops.drop (s.ops.length - (3 : Int).toNat))[(1 : Int).toNat]?).getD ob0 = opA s 3 1 := rfl
  have e2 : ((s.ops.drop (s.ops.length - (3 : Int).toNat))[(IntKind.i64.wrap (3 - 1)).toNat]?).getD ob0 = opA s 3 (3 - 1) := rfl
  have ht : (3 : Int).toNat = 3 := rfl
  obtain ⟨hs1, hs2, hs3, hs4⟩ := id hs
  by_cases hln : (s.ops.length : Int) < 3
  repeat' (conv => whnf
           first
             | (with_reducible refine sC (by kernel_rfl) ?_)
             | ((first | with_reducible refine sB ?_ | with_reducible refine sG0 ?_ | with_reducible refine sG1 ?_ | refine sP (by rfl) ?_); first | refine Or.inl ⟨by first | assumption | (simp only [eqO, Ob.eta, Cl.eta, tt_true, tt_false, decide_eq_true_eq, decide_eq_false_iff_not, beq_iff_eq, beq_eq_false_iff_ne, bne_iff_ne, ne_eq, Bool.not_eq_true, Bool.not_eq_false, Bool.not_eq_eq_eq_not, Bool.not_true, Bool.not_false, Decidable.not_not, Int.not_lt, Int.not_le, gt_iff_lt, ge_iff_le, bne_eq_false_iff_eq, List.length_map, e0, e1, e2]; first | done | assumption | omega), ?_⟩ | refine Or.inr (Or.inl ⟨by first | assumption | (simp only [eqO, Ob.eta, Cl.eta, tt_true, tt_false, decide_eq_true_eq, decide_eq_false_iff_not, beq_iff_eq, beq_eq_false_iff_ne, bne_iff_ne, ne_eq, Bool.not_eq_true, Bool.not_eq_false, Bool.not_eq_eq_eq_not, Bool.not_true, Bool.not_false, Decidable.not_not, Int.not_lt, Int.not_le, gt_iff_lt, ge_iff_le, bne_eq_false_iff_eq, List.length_map, e0, e1, e2]; first | done | assumption | omega), ?_⟩) | (refine Or.inr (Or.inr ⟨fun hsp => ?_, fun hsp => ?_⟩) <;> (try simp only [eqO, Ob.eta, Cl.eta, tt_true, tt_false, decide_eq_true_eq, decide_eq_false_iff_not, beq_iff_eq, beq_eq_false_iff_ne, bne_iff_ne, ne_eq, Bool.not_eq_true, Bool.not_eq_false, Bool.not_eq_eq_eq_not, Bool.not_true, Bool.not_false, Decidable.not_not, Int.not_lt, Int.not_le, gt_iff_lt, ge_iff_le, bne_eq_false_iff_eq, List.length_map, e0, e1, e2] at hsp) <;> try subst hsp))
             | refine ⟨_, _, ok_stack_Top C s _ (by decide) (by omega) (by omega), ?_⟩
             | refine ⟨_, _, ok_stack_Top_under C s _ (by decide) (by omega), ?_⟩
             | refine ⟨_, _, ok_heap_Key C s.heap (opA s 3 0) (nOk_op hs _ _), ?_⟩
             | refine ⟨_, _, ok_heap_Key C s.heap (opA s 3 (3 - 1)) (nOk_op hs _ _), ?_⟩
             | refine ⟨_, _, ok_heap_Key C s.heap (((s.ops.drop (s.ops.length - (3 : Int).toNat))[(IntKind.i64.wrap (3 - 1)).toNat]?).getD ob0) (by rw [e2]; exact nOk_op hs _ _), ?_⟩
             | refine ⟨_, _, ok_resource_library_dictionary C s (hKey s.heap (((s.ops.drop (s.ops.length - (3 : Int).toNat))[(IntKind.i64.wrap (3 - 1)).toNat]?).getD ob0)).1 hs, ?_⟩
             | refine ⟨_, _, ok_resource_library_dictionary C s (hKey s.heap (opA s 3 (3 - 1))).1 hs, ?_⟩
             | refine sS (iaddr_at (by rfl) (by rfl) (by first | omega | decide) (row_at (d := ob0) (by first | omega | decide) (by simp only [hw2, List.length_drop, ht]; omega))) ?_
             | fail)
  all_goals (conv => whnf)
  all_goals (first | exact PV.le.refl _ | (simp only [e0, e1, e2]; exact PV.le.refl _) | (exfalso; clear e0 e1 e2; grind [askE]))
end Go.Ab.Td
