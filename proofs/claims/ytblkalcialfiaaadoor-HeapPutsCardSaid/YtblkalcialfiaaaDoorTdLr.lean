/- HeapReads: the law. Under: nothing. -/
import Derived.Test.YtblkalcialfiaaaDoorTdFw
import Derived.Test.YtblkalcialfiaaaDoorTdHa
namespace Go.Ab.Td
open Go Go.Ab
variable {P : Program}
set_option linter.unusedSimpArgs false
attribute [local irreducible] compat
theorem tt_eqT {p : Prop} (h : p) : tt p = true := tt_true.mpr h
theorem tt_eqF {p : Prop} (h : ¬ p) : tt p = false := tt_false.mpr h
theorem rd_cases (h : List Cl) (y : Ob) : (¬ fits h y ∧ vErr h y [6] = 2 ∧ vErr h y [7, 8] = 2 ∧ vErr h y [6, 7, 8, 9, 5] = 2) ∨ (fits h y ∧ y.kind = 6 ∧ vErr h y [6] = 0 ∧ vErr h y [7, 8] = 22 ∧ vErr h y [6, 7, 8, 9, 5] = 0) ∨
    (fits h y ∧ (y.kind = 7 ∨ y.kind = 8) ∧ vErr h y [6] = 22 ∧ vErr h y [7, 8] = 0 ∧ vErr h y [6, 7, 8, 9, 5] = 0) ∨ (fits h y ∧ (y.kind = 9 ∨ y.kind = 5) ∧ vErr h y [6] = 22 ∧ vErr h y [7, 8] = 22 ∧ vErr h y [6, 7, 8, 9, 5] = 0) ∨
    (fits h y ∧ (y.kind ≠ 5 ∧ y.kind ≠ 6 ∧ y.kind ≠ 7 ∧ y.kind ≠ 8 ∧ y.kind ≠ 9) ∧ vErr h y [6] = 22 ∧ vErr h y [7, 8] = 22 ∧ vErr h y [6, 7, 8, 9, 5] = 22) := by
  unfold vErr
  by_cases hf : fits h y
  · by_cases h6 : y.kind = 6
    · exact .inr (.inl (by simp [hf, h6]))
    by_cases h78 : y.kind = 7 ∨ y.kind = 8
    · exact .inr (.inr (.inl (by rcases h78 with h | h <;> simp [hf, h])))
    by_cases h95 : y.kind = 9 ∨ y.kind = 5
    · exact .inr (.inr (.inr (.inl (by rcases h95 with h | h <;> simp [hf, h]))))
    · exact .inr (.inr (.inr (.inr (by simp only [not_or] at h78 h95; simp [hf, h6, h78, h95]))))
  · simp [hf]
end Go.Ab.Td
