/- Slices cut at the smaller of a number and their length. Under: nothing. -/
import Derived.Test.YtblkalcialfiaaaDoorAbG6
namespace Go.Ab
section
variable {σ : Store} {nm es : Nat} {ev : RA → AV} {α : Type} {f : α → List PV} {l : List α}
theorem slice_min {x r : RA} {k : Int} (hx : ev x = .pv (.sl es (l.map f))) (hh : optIdx ev ((l.map f).length : Nat) (some r) = some (if false = true then (if k > ((l.map f).length : Int) then k else ((l.map f).length : Int)) else (if k < ((l.map f).length : Int) then k else ((l.map f).length : Int)))) (hk : 0 ≤ k) :
    step σ nm ev (.slice es x none (some r) none) = some { v := .pv (.sl es ((l.take k.toNat).map f)) } := by
  rw [if_neg (by decide)] at hh
  rw [slice_M (l := l) (f := f) (a := 0) hx rfl hh (by decide) (by split <;> omega) (by split <;> simp_all <;> omega)]
  congr 4
  rw [show ((0 : Int).toNat) = 0 from rfl, List.drop_zero]
  split
  · rfl
  · rename_i h
    simp only [List.length_map, Int.not_lt] at h ⊢
    rw [Int.toNat_natCast, List.take_length, List.take_of_length_le (by omega)]
theorem sslice_min {x r : RA} {k : Int} {s : List UInt8} (hx : ev x = .pv (.str s)) (hh : optIdx ev (s.length : Nat) (some r) = some (if false = true then (if k > (s.length : Int) then k else (s.length : Int)) else (if k < (s.length : Int) then k else (s.length : Int)))) (hk : 0 ≤ k) :
    step σ nm ev (.sslice x none (some r)) = some { v := .pv (.str (s.take k.toNat)) } := by
  rw [if_neg (by decide)] at hh
  rw [sslice_lh (l := 0) hx rfl hh (by decide) (by split <;> omega) (by split <;> omega)]
  congr 3
  rw [show ((0 : Int).toNat) = 0 from rfl, List.drop_zero]
  split
  · rfl
  · rename_i h
    rw [Int.toNat_natCast, List.take_length, List.take_of_length_le (by omega)]
end
end Go.Ab
namespace Go.Ab
section
variable {σ : Store} {nm : Nat} {ev : RA → AV}
end
end Go.Ab
