/- Joined texts: TdAr2, TdAr4. Under: nothing. -/
import Derived.Test.YtngmifmcohmfmaaDoorAbGl
import Derived.Test.YtngmifmcohmfmaaDoorTdFw
import Derived.Test.YtngmifmcohmfmaaDoorTdVd
/- What is known of objects, cells, slices of them, ints. Under: nothing. -/
namespace Go.Ab.Td
open Go Go.Ab Go.ChangeShapes
theorem hasStr {p : PV} (h : HasArg (false, [.str]) p) : ∃ s, p = .str s ∧ s.length ≤ maxLen := by
  obtain ⟨qs, e, hl, h⟩ := h
  simp only [cellsIs] at e
  subst e
  have k := h 0 _ _ rfl rfl
  cases k with
  | str w => exact ⟨_, rfl, w⟩
end Go.Ab.Td

/- What is known of a draft, cells, arrays of four words, with bounds. Under: nothing. -/
namespace Go.Ab.Td
open Go Go.Ab Go.ChangeShapes
theorem Wd.word (w : Wd) : WordN w.row := ⟨_, _, _, _, _, rfl, w.hA, w.hB, w.hN⟩
theorem hasWordsN {rows : List (List PV)} (hw : ∀ row ∈ rows, row.length = wordTy.length) (h : ∀ row ∈ rows, ∀ (j : Nat) (q : PV) (t : Ty), row[j]? = some q → wordTy[j]? = some t → Has t q) : ∀ r ∈ rows, WordN r := by
  intro r hr
  obtain ⟨w, rfl⟩ := hasWd ⟨hw r hr, h r hr⟩
  exact w.word
theorem hasDraftN {p : PV} (h : HasArg (true, draftTy) p) : ∃ cells ops dicts, p = .agg [.sl 5 cells, .sl 5 ops, .sl 1 dicts] ∧ (∀ r ∈ cells, WordN r) ∧ (∀ r ∈ ops, WordN r) ∧ ∀ r ∈ dicts, ∃ D, r = [.int .u8 D] ∧ 0 ≤ D ∧ D < 256 := by
  obtain ⟨qs, e, hl, h⟩ := h
  simp only [cellsIs] at e
  subst e
  match qs, hl with
  | [a, b, c], _ =>
    have k0 := h 0 _ _ rfl rfl
    have k1 := h 1 _ _ rfl rfl
    have k2 := h 2 _ _ rfl rfl
    cases k0 with
    | sl w0 g0 =>
    cases k1 with
    | sl w1 g1 =>
    cases k2 with
    | sl w2 g2 =>
      refine ⟨_, _, _, rfl, hasWordsN w0 g0, hasWordsN w1 g1, fun r hr => ?_⟩
      have hlr := w2 r hr
      match r, hlr with
      | [q], _ =>
        have k := g2 _ hr 0 _ _ rfl rfl
        cases k with
        | int w => exact ⟨_, rfl, u8_of w⟩
/-- The numbers of a cell's objects are a machine's. -/
def nC (c : Cl) : Prop := (∀ o ∈ c.items, o.n < 9223372036854775808) ∧ (∀ o ∈ c.keys, o.n < 9223372036854775808) ∧ ∀ o ∈ c.vals, o.n < 9223372036854775808
theorem hasWd4 {p : PV} (h : HasArg (true, arrTy wordTy 4) p) : ∃ a b c d : Wd, p = .agg (a.row ++ (b.row ++ (c.row ++ d.row))) := by
  obtain ⟨qs, e, hl, h⟩ := h
  simp only [cellsIs] at e
  subst e
  obtain ⟨a, q, rfl, h1, h2⟩ := HasL.split ⟨hl, h⟩
  obtain ⟨b, q, rfl, g2, h3⟩ := HasL.split h2
  obtain ⟨c, q, rfl, g3, h4⟩ := HasL.split h3
  obtain ⟨d, q, rfl, g4, h5⟩ := HasL.split h4
  obtain ⟨a, rfl⟩ := hasWd h1
  obtain ⟨b, rfl⟩ := hasWd g2
  obtain ⟨c, rfl⟩ := hasWd g3
  obtain ⟨d, rfl⟩ := hasWd g4
  match q, h5.1 with
  | [], _ => exact ⟨a, b, c, d, by simp⟩
end Go.Ab.Td
