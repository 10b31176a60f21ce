/- Joined texts: TdAl, TdAk. Under: nothing. -/
import Derived.Test.YtngmifmcohmfmaaDoorTdRK
/- Equality is an equivalence. Under: nothing. -/
namespace Go.Ab.Td
open Go Go.Ab
end Go.Ab.Td

/- Equality agrees with equality of keys. Under: nothing. -/
namespace Go.Ab.Td
open Go Go.Ab
/-- The fields that a valid number uses. -/
theorem right_numO {o : Ob} (hr : o.right) (hk : o.kind = 3 ∨ o.kind = 4) : o = ⟨o.kind, o.exec, o.n, [], 0, 0, 0⟩ ∧ -2147483648 ≤ o.n ∧ o.n ≤ 2147483648 := by
  obtain ⟨a, b, c, d, e, f⟩ := right_num hr hk
  have e2 : o.name = [] := List.length_eq_zero_iff.1 (by omega)
  refine ⟨?_, a, b⟩
  cases o; simp_all
theorem tdm {n : Int} (h : n.tmod 65536 = 0) : n.tdiv 65536 * 65536 = n := by
  have := Int.mul_tdiv_add_tmod n 65536
  omega
end Go.Ab.Td
