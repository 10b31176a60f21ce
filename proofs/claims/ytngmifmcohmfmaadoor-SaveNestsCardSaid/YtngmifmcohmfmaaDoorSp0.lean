/- What the functions on objects and heaps answer, in plain Lean. Under: nothing. -/
import Derived.Test.YtngmifmcohmfmaaDoorAbG6
namespace Go.Ab

/-- The truth of a sentence. -/
noncomputable def tt (p : Prop) : Bool := @decide p (Classical.propDecidable p)
theorem tt_true {p : Prop} : (tt p = true) = p := by simp [tt]
theorem tt_false {p : Prop} : (tt p = false) = ¬ p := by simp [tt]
theorem tt_T {p : Prop} (h : p) : PV.le (.bool true) (.bool (tt p)) := le_of_eq (by rw [show tt p = true from tt_true.mpr h])
theorem tt_F {p : Prop} (h : ¬ p) : PV.le (.bool false) (.bool (tt p)) := le_of_eq (by rw [show tt p = false from tt_false.mpr h])
theorem le_int {k : IntKind} {a b : Int} (h : a = b) : PV.le (.int k a) (.int k b) := le_of_eq (by rw [h])
theorem le_str {a b : List UInt8} (h : a = b) : PV.le (.str a) (.str b) := le_of_eq (by rw [h])
theorem le_sle {es : Nat} {a b : List (List PV)} (h : a = b) : PV.le (.sl es a) (.sl es b) := le_of_eq (by rw [h])
theorem tt_B {p : Prop} {b : Bool} (h : b = true ↔ p) : PV.le (.bool b) (.bool (tt p)) := le_of_eq (by
  congr 1
  cases b with
  | true => exact (tt_true.mpr (h.1 rfl)).symm
  | false => exact (tt_false.mpr fun hp => by cases h.2 hp).symm)
def Ob.comp (o : Ob) : Prop := o.kind = 6 ∨ o.kind = 7 ∨ o.kind = 8 ∨ o.kind = 9 ∨ o.kind = 11
/-- The fields that the kind does not use are zero. -/
def Ob.blank (o : Ob) : Prop :=
  (o.n = 0 ∨ o.kind = 2 ∨ o.kind = 3 ∨ o.kind = 4 ∨ o.kind = 12) ∧ (o.name.length = 0 ∨ o.kind = 5 ∨ o.kind = 10) ∧ (o.ref = 0 ∨ o.kind = 6 ∨ o.kind = 7 ∨ o.kind = 8 ∨ o.kind = 9 ∨ o.kind = 11) ∧ (o.off = 0 ∨ o.kind = 6 ∨ o.kind = 7 ∨ o.kind = 8) ∧ (o.len = 0 ∨ o.kind = 6 ∨ o.kind = 7 ∨ o.kind = 8)
/-- A valid object. -/
def Ob.right (o : Ob) : Prop :=
  (0 ≤ o.kind ∧ o.kind ≤ 12) ∧ o.blank ∧
  (o.kind = 2 → o.n = 0 ∨ o.n = 1) ∧ (o.kind = 3 → -2147483648 ≤ o.n ∧ o.n ≤ 2147483647) ∧ (o.kind = 4 → -2147483648 ≤ o.n ∧ o.n ≤ 2147483648) ∧ (o.kind = 12 → 1 ≤ o.n) ∧
  (o.kind = 5 → o.name.length ≤ 100) ∧ (o.kind = 10 → 1 ≤ o.name.length ∧ o.name.length ≤ 100) ∧
  (o.kind = 6 ∨ o.kind = 7 ∨ o.kind = 8 → 0 ≤ o.off ∧ 0 ≤ o.len ∧ o.off + o.len ≤ 1000) ∧ (o.kind = 6 ∨ o.kind = 7 ∨ o.kind = 8 ∨ o.kind = 9 ∨ o.kind = 11 → 0 ≤ o.ref ∧ o.ref ≤ 20000)
end Go.Ab
namespace Go.Ab
/-- The place of an object in a list, from i on. -/
def idxFrom (o : Ob) : Nat → List Ob → Int
  | _, [] => -1
  | i, x :: l => if x = o then (i : Int) else idxFrom o (i + 1) l
def Cl.size (c : Cl) : Int :=
  if c.kind = 3 then (if c.max < 0 then 1 else if c.max > 200 then 401 else 1 + 2 * c.max) else IntKind.i64.wrap (IntKind.i64.wrap (1 + (c.bytes.length : Int)) + (c.items.length : Int))
theorem eqO {k k' n n' r r' f f' l l' : Int} {e e' : Bool} {s s' : List UInt8} : (k == k' && (e == e' && (n == n' && (s == s' && (r == r' && (f == f' && (l == l' && true))))))) = tt ((⟨k, e, n, s, r, f, l⟩ : Ob) = ⟨k', e', n', s', r', f', l'⟩) := by
  rw [Bool.eq_iff_iff]
  simp [tt]
theorem Ob.ext' (a b : Ob) : (a = b) = (a.kind = b.kind ∧ a.exec = b.exec ∧ a.n = b.n ∧ a.name = b.name ∧ a.ref = b.ref ∧ a.off = b.off ∧ a.len = b.len) := by
  cases a; cases b; simp
end Go.Ab
