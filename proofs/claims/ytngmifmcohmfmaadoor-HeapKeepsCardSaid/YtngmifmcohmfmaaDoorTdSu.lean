/- defineresource in a draft's state. Under: nothing. -/
import Derived.Test.YtngmifmcohmfmaaDoorTdTy
import Derived.Test.YtngmifmcohmfmaaDoorTdK
namespace Go.Ab.Td
open Go Go.Ab
variable {P : Program}
theorem heap_at {h : List Cl} (t : HeapT h) : h[4]? = some catT ∧ (∀ j : Nat, 5 ≤ j → j ≤ 9 → h[j]? = some (dct [] [] 10)) ∧ 10 ≤ h.length := by
  obtain ⟨more, rfl, hm, hall⟩ := t
  refine ⟨rfl, fun j h1 h2 => ?_, by simp [firstT]⟩
  have : j = 5 ∨ j = 6 ∨ j = 7 ∨ j = 8 ∨ j = 9 := by omega
  rcases this with rfl | rfl | rfl | rfl | rfl <;> rfl
theorem right_dict (j : Int) (h0 : 0 ≤ j) (h1 : j ≤ 20000) : (dO j).right := by
  unfold Ob.right Ob.blank dO; simp; omega
section
variable {s : Sta} (hs : StaT s) {cs : List UInt8} (hc : cs ∈ cats) (o : Ob) (ho : o.n < 9223372036854775808)
end
end Go.Ab.Td
