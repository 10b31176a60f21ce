/- What is known of a slice of words. Under: nothing. -/
import Derived.Test.YtblkalcialfiaaaDoorTdAr2
namespace Go.Ab.Td
open Go Go.Ab Go.ChangeShapes
theorem hasWds {p : PV} (h : HasArg (false, [.sl wordTy]) p) : ∃ l : List Wd, p = .sl 5 (l.map Wd.row) := by
  obtain ⟨qs, e, hl, h⟩ := h
  simp only [cellsIs] at e
  subst e
  have k := h 0 _ _ rfl rfl
  cases k with
  | sl w g =>
    obtain ⟨l, rfl, _⟩ := hasRows (Q := fun _ => True) (fun qs h => by obtain ⟨w, e⟩ := hasWd h; exact ⟨w, e, trivial⟩) _ w g
    exact ⟨l, rfl⟩
end Go.Ab.Td
