/- Resources are found: the program. Under: nothing. -/
import Derived.Test.YtblkalcialfiaaaDoorTdFi
import Derived.Test.YtblkalcialfiaaaDoorTdFj
import Derived.Test.YtblkalcialfiaaaDoorTdHi
namespace Go.Ab.Td
open Go Go.Ab
variable {P : Program}
set_option linter.unusedSimpArgs false
attribute [local irreducible] compat

set_option maxHeartbeats 1000000 in
set_option maxRecDepth 100000 in
theorem ok_resource_Find (C : Laid P) (s : Sta) (c : List UInt8) (k : Ob) (hs : nOk s) : OkC P G n_resource_Find [aS s, .str c, aO k] [] (.tup [aO (rfO s.heap c k), pI (rfE s.heap c k)]) := by
  refine ok_fn C (k_resource_Find C) rfl ?_
  have hdn := nOk_dic hs (nmO c)
  have r1 : rfO s.heap c k = if dicE s.heap (nmO c) = 0 then fndO s.heap (dicO s.heap (nmO c)) k else ob0 := rfl
  have r2 : rfE s.heap c k = if dicE s.heap (nmO c) = 0 then fndE s.heap (dicO s.heap (nmO c)) k else dicE s.heap (nmO c) := rfl
  by_cases hd0 : dicE s.heap (nmO c) = 0
  all_goals simp only [hd0, if_true, if_false] at r1 r2
  all_goals rw [r1, r2]
  repeat' (conv => whnf
           first
             | (with_reducible refine sC (by kernel_rfl) ?_)
             | ((first | with_reducible refine sB ?_ | with_reducible refine sG0 ?_ | with_reducible refine sG1 ?_ | refine sP (by rfl) ?_); first | refine Or.inl ⟨by first | assumption | (simp only [eqO, Ob.eta, Cl.eta, tt_true, tt_false, decide_eq_true_eq, decide_eq_false_iff_not, beq_iff_eq, beq_eq_false_iff_ne, bne_iff_ne, ne_eq, Bool.not_eq_true, Bool.not_eq_false, Bool.not_eq_eq_eq_not, Bool.not_true, Bool.not_false, Decidable.not_not, Int.not_lt, Int.not_le, gt_iff_lt, ge_iff_le, bne_eq_false_iff_eq]; first | done | assumption | omega), ?_⟩ | refine Or.inr (Or.inl ⟨by first | assumption | (simp only [eqO, Ob.eta, Cl.eta, tt_true, tt_false, decide_eq_true_eq, decide_eq_false_iff_not, beq_iff_eq, beq_eq_false_iff_ne, bne_iff_ne, ne_eq, Bool.not_eq_true, Bool.not_eq_false, Bool.not_eq_eq_eq_not, Bool.not_true, Bool.not_false, Decidable.not_not, Int.not_lt, Int.not_le, gt_iff_lt, ge_iff_le, bne_eq_false_iff_eq]; first | done | assumption | omega), ?_⟩) | (refine Or.inr (Or.inr ⟨fun hsp => ?_, fun hsp => ?_⟩) <;> (try simp only [eqO, Ob.eta, Cl.eta, tt_true, tt_false, decide_eq_true_eq, decide_eq_false_iff_not, beq_iff_eq, beq_eq_false_iff_ne, bne_iff_ne, ne_eq, Bool.not_eq_true, Bool.not_eq_false, Bool.not_eq_eq_eq_not, Bool.not_true, Bool.not_false, Decidable.not_not, Int.not_lt, Int.not_le, gt_iff_lt, ge_iff_le, bne_eq_false_iff_eq] at hsp) <;> try subst hsp))
             | refine ⟨_, _, ok_resource_library_dictionary C s (nmO c) hs, ?_⟩
             | refine ⟨_, _, ok_resource_library_find C s (dicO s.heap (nmO c)) k hs hdn, ?_⟩
             | fail)
  all_goals (conv => whnf)
  all_goals (exact PV.le.refl _)
end Go.Ab.Td
