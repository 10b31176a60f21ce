/- Joined texts: TdAr2, TdAr4. Under: nothing. -/
import Derived.Test.YtngmifmcohmfmaaDoorAbGl
import Derived.Test.YtngmifmcohmfmaaDoorTdFw
import Derived.Test.YtngmifmcohmfmaaDoorTdVd
/- What is known of objects, cells, slices of them, ints. Under: nothing. -/
namespace Go.Ab.Td
open Go Go.Ab Go.ChangeShapes
def objTy : List Ty := [.int .i64, .bool, .int .i64, .str, .int .i64, .int .i64, .int .i64]
def cellTy : List Ty := [.int .i64, .str, .sl objTy, .sl objTy, .sl objTy, .int .i64, .int .i64]
theorem hasOb {qs : List PV} (h : HasL qs objTy) : ∃ o : Ob, qs = encO o ∧ o.n < 9223372036854775808 := by
  obtain ⟨hl, h⟩ := h
  match qs, hl with
  | [a, b, c, d, e, f, g], _ =>
    have k0 := h 0 _ _ rfl rfl
    have k1 := h 1 _ _ rfl rfl
    have k2 := h 2 _ _ rfl rfl
    have k3 := h 3 _ _ rfl rfl
    have k4 := h 4 _ _ rfl rfl
    have k5 := h 5 _ _ rfl rfl
    have k6 := h 6 _ _ rfl rfl
    cases k0 with
    | int w0 =>
    cases k1 with
    | bool b =>
    cases k2 with
    | int w2 =>
    cases k3 with
    | str w3 =>
    cases k4 with
    | int w4 =>
    cases k5 with
    | int w5 =>
    cases k6 with
    | int w6 => exact ⟨⟨_, _, _, _, _, _, _⟩, rfl, (i64_of w2).2⟩
theorem hasRows {α : Type} {f : α → List PV} {ts : List Ty} {Q : α → Prop} (one : ∀ qs, HasL qs ts → ∃ o, qs = f o ∧ Q o) : ∀ (rows : List (List PV)), (∀ row ∈ rows, row.length = ts.length) → (∀ row ∈ rows, ∀ (j : Nat) (q : PV) (t : Ty), row[j]? = some q → ts[j]? = some t → Has t q) → ∃ l : List α, rows = l.map f ∧ ∀ o ∈ l, Q o
  | [], _, _ => ⟨[], rfl, by simp⟩
  | r :: rows, h1, h2 => by
    obtain ⟨o, e, hq⟩ := one r ⟨h1 r (by simp), h2 r (by simp)⟩
    obtain ⟨l, e2, hl⟩ := hasRows one rows (fun x hx => h1 x (by simp [hx])) (fun x hx => h2 x (by simp [hx]))
    exact ⟨o :: l, by rw [e, e2]; rfl, by simpa using ⟨hq, hl⟩⟩
theorem hasObA {p : PV} (h : HasArg (true, objTy) p) : ∃ o : Ob, p = aO o ∧ o.n < 9223372036854775808 := by
  obtain ⟨qs, e, hl, h⟩ := h
  simp only [cellsIs] at e
  subst e
  obtain ⟨o, rfl, hn⟩ := hasOb ⟨hl, h⟩
  exact ⟨o, rfl, hn⟩
end Go.Ab.Td

/- What is known of a draft, cells, arrays of four words, with bounds. Under: nothing. -/
namespace Go.Ab.Td
open Go Go.Ab Go.ChangeShapes
theorem Wd.word (w : Wd) : WordN w.row := ⟨_, _, _, _, _, rfl, w.hA, w.hB, w.hN⟩
theorem hasWordsN {rows : List (List PV)} (hw : ∀ row ∈ rows, row.length = wordTy.length) (h : ∀ row ∈ rows, ∀ (j : Nat) (q : PV) (t : Ty), row[j]? = some q → wordTy[j]? = some t → Has t q) : ∀ r ∈ rows, WordN r := by
  intro r hr
  obtain ⟨w, rfl⟩ := hasWd ⟨hw r hr, h r hr⟩
  exact w.word
theorem hasDraftN {p : PV} (h : HasArg (true, draftTy) p) : ∃ cells ops dicts, p = .agg [.sl 5 cells, .sl 5 ops, .sl 1 dicts] ∧ (∀ r ∈ cells, WordN r) ∧ (∀ r ∈ ops, WordN r) ∧ ∀ r ∈ dicts, ∃ D, r = [.int .u8 D] ∧ 0 ≤ D ∧ D < 256 := by
  obtain ⟨qs, e, hl, h⟩ := h
  simp only [cellsIs] at e
  subst e
  match qs, hl with
  | [a, b, c], _ =>
    have k0 := h 0 _ _ rfl rfl
    have k1 := h 1 _ _ rfl rfl
    have k2 := h 2 _ _ rfl rfl
    cases k0 with
    | sl w0 g0 =>
    cases k1 with
    | sl w1 g1 =>
    cases k2 with
    | sl w2 g2 =>
      refine ⟨_, _, _, rfl, hasWordsN w0 g0, hasWordsN w1 g1, fun r hr => ?_⟩
      have hlr := w2 r hr
      match r, hlr with
      | [q], _ =>
        have k := g2 _ hr 0 _ _ rfl rfl
        cases k with
        | int w => exact ⟨_, rfl, u8_of w⟩
/-- The numbers of a cell's objects are a machine's. -/
def nC (c : Cl) : Prop := (∀ o ∈ c.items, o.n < 9223372036854775808) ∧ (∀ o ∈ c.keys, o.n < 9223372036854775808) ∧ ∀ o ∈ c.vals, o.n < 9223372036854775808
theorem hasClN {qs : List PV} (h : HasL qs cellTy) : ∃ c : Cl, qs = encC c ∧ nC c := by
  obtain ⟨hl, h⟩ := h
  match qs, hl with
  | [a, b, c, d, e, f, g], _ =>
    have k0 := h 0 _ _ rfl rfl
    have k1 := h 1 _ _ rfl rfl
    have k2 := h 2 _ _ rfl rfl
    have k3 := h 3 _ _ rfl rfl
    have k4 := h 4 _ _ rfl rfl
    have k5 := h 5 _ _ rfl rfl
    have k6 := h 6 _ _ rfl rfl
    cases k0 with
    | int w0 =>
    cases k1 with
    | str w1 =>
    cases k2 with
    | sl w2 g2 =>
    cases k3 with
    | sl w3 g3 =>
    cases k4 with
    | sl w4 g4 =>
    cases k5 with
    | int w5 =>
    cases k6 with
    | int w6 =>
      obtain ⟨l2, rfl, q2⟩ := hasRows (fun qs h => hasOb h) _ w2 g2
      obtain ⟨l3, rfl, q3⟩ := hasRows (fun qs h => hasOb h) _ w3 g3
      obtain ⟨l4, rfl, q4⟩ := hasRows (fun qs h => hasOb h) _ w4 g4
      exact ⟨⟨_, _, l2, l3, l4, _, _⟩, rfl, q2, q3, q4⟩
theorem hasCellsN {p : PV} (h : HasArg (false, [.sl cellTy]) p) : ∃ l : List Cl, p = .sl 7 (l.map encC) ∧ ∀ c ∈ l, nC c := by
  obtain ⟨qs, e, hl, h⟩ := h
  simp only [cellsIs] at e
  subst e
  have k := h 0 _ _ rfl rfl
  cases k with
  | sl w g =>
    obtain ⟨l, rfl, q⟩ := hasRows (fun qs h => hasClN h) _ w g
    exact ⟨l, rfl, q⟩
theorem hasClA {p : PV} (h : HasArg (true, cellTy) p) : ∃ c : Cl, p = aC c ∧ nC c := by
  obtain ⟨qs, e, hl, h⟩ := h
  simp only [cellsIs] at e
  subst e
  obtain ⟨c, rfl, hn⟩ := hasClN ⟨hl, h⟩
  exact ⟨c, rfl, hn⟩
theorem nC_cut {c : Cl} (h : nC c) : nC (cutC c) :=
  ⟨fun o ho => h.1 o (List.mem_of_mem_take ho), fun o ho => h.2.1 o (List.mem_of_mem_take ho), fun o ho => h.2.2 o (List.mem_of_mem_take ho)⟩
theorem nC_few {x : List Cl} (h : ∀ c ∈ x, nC c) : ∀ c ∈ fewL x, nC c := by
  intro c hc
  obtain ⟨d, hd, rfl⟩ := List.mem_map.1 hc
  exact nC_cut (h d (List.mem_of_mem_take hd))
end Go.Ab.Td
