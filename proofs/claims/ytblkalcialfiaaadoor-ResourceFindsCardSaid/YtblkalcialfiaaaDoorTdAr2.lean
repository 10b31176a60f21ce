/- What is known of objects, cells, slices of them, ints. Under: nothing. -/
import Derived.Test.YtblkalcialfiaaaDoorAbGl
import Derived.Test.YtblkalcialfiaaaDoorTdFw
namespace Go.Ab.Td
open Go Go.Ab Go.ChangeShapes
def objTy : List Ty := [.int .i64, .bool, .int .i64, .str, .int .i64, .int .i64, .int .i64]
theorem hasOb {qs : List PV} (h : HasL qs objTy) : ∃ o : Ob, qs = encO o ∧ o.n < 9223372036854775808 := by
  obtain ⟨hl, h⟩ := h
  match qs, hl with
  | [a, b, c, d, e, f, g], _ =>
    have k0 := h 0 _ _ rfl rfl
    have k1 := h 1 _ _ rfl rfl
    have k2 := h 2 _ _ rfl rfl
    have k3 := h 3 _ _ rfl rfl
    have k4 := h 4 _ _ rfl rfl
    have k5 := h 5 _ _ rfl rfl
    have k6 := h 6 _ _ rfl rfl
    cases k0 with
    | int w0 =>
    cases k1 with
    | bool b =>
    cases k2 with
    | int w2 =>
    cases k3 with
    | str w3 =>
    cases k4 with
    | int w4 =>
    cases k5 with
    | int w5 =>
    cases k6 with
    | int w6 => exact ⟨⟨_, _, _, _, _, _, _⟩, rfl, (i64_of w2).2⟩
theorem hasRows {α : Type} {f : α → List PV} {ts : List Ty} {Q : α → Prop} (one : ∀ qs, HasL qs ts → ∃ o, qs = f o ∧ Q o) : ∀ (rows : List (List PV)), (∀ row ∈ rows, row.length = ts.length) → (∀ row ∈ rows, ∀ (j : Nat) (q : PV) (t : Ty), row[j]? = some q → ts[j]? = some t → Has t q) → ∃ l : List α, rows = l.map f ∧ ∀ o ∈ l, Q o
  | [], _, _ => ⟨[], rfl, by simp⟩
  | r :: rows, h1, h2 => by
    obtain ⟨o, e, hq⟩ := one r ⟨h1 r (by simp), h2 r (by simp)⟩
    obtain ⟨l, e2, hl⟩ := hasRows one rows (fun x hx => h1 x (by simp [hx])) (fun x hx => h2 x (by simp [hx]))
    exact ⟨o :: l, by rw [e, e2]; rfl, by simpa using ⟨hq, hl⟩⟩
theorem hasObA {p : PV} (h : HasArg (true, objTy) p) : ∃ o : Ob, p = aO o ∧ o.n < 9223372036854775808 := by
  obtain ⟨qs, e, hl, h⟩ := h
  simp only [cellsIs] at e
  subst e
  obtain ⟨o, rfl, hn⟩ := hasOb ⟨hl, h⟩
  exact ⟨o, rfl, hn⟩
theorem hasStr {p : PV} (h : HasArg (false, [.str]) p) : ∃ s, p = .str s ∧ s.length ≤ maxLen := by
  obtain ⟨qs, e, hl, h⟩ := h
  simp only [cellsIs] at e
  subst e
  have k := h 0 _ _ rfl rfl
  cases k with
  | str w => exact ⟨_, rfl, w⟩
end Go.Ab.Td
