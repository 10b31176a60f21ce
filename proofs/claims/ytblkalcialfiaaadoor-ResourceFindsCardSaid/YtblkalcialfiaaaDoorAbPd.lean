/- A function that is said outright, with symbols. Under: nothing. -/
import Derived.Test.YtblkalcialfiaaaDoorAbG6
namespace Go.Ab
end Go.Ab
namespace Go.Ab
theorem load_row {σ : Store} {nm es b i : Nat} {ev : RA → AV} {x : RA} {rows : List (List PV)} {row : List PV} {sl : Bool} (hx : ev x = .ptr b i 0) (hf : find σ b = some (.arr es rows sl)) (hr : rows[i]? = some row) (hl : row.length = es) :
    step σ nm ev (.load true es x) = some { v := .agg (row.map .pv), rd := [b] } := by
  simp [step, hx, hf, SObj.row?, hr, mkAgg, hl]
  rw [List.take_of_length_le (by simp [hl])]
theorem load_one {σ : Store} {nm es b i : Nat} {ev : RA → AV} {x : RA} {rows : List (List PV)} {p : PV} {sl : Bool} (hx : ev x = .ptr b i 0) (hf : find σ b = some (.arr es rows sl)) (hr : rows[i]? = some [p]) :
    step σ nm ev (.load false 1 x) = some { v := .pv p, rd := [b] } := load_arr hx hf hr
end Go.Ab
