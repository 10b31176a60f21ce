/- Slices cut at the smaller of a number and their length. Under: nothing. -/
import Derived.Test.YtblkalcialfiaaaDoorAbG6
namespace Go.Ab
section
variable {σ : Store} {nm es : Nat} {ev : RA → AV} {α : Type} {f : α → List PV} {l : List α}
theorem slice_min {x r : RA} {k : Int} (hx : ev x = .pv (.sl es (l.map f))) (hh : optIdx ev ((l.map f).length : Nat) (some r) = some (if false = true then (if k > ((l.map f).length : Int) then k else ((l.map f).length : Int)) else (if k < ((l.map f).length : Int) then k else ((l.map f).length : Int)))) (hk : 0 ≤ k) :
    step σ nm ev (.slice es x none (some r) none) = some { v := .pv (.sl es ((l.take k.toNat).map f)) } := by
  rw [if_neg (by decide)] at hh
  rw [slice_M (l := l) (f := f) (a := 0) hx rfl hh (by decide) (by split <;> omega) (by split <;> simp_all <;> omega)]
  congr 4
  rw [show ((0 : Int).toNat) = 0 from rfl, List.drop_zero]
  split
  · rfl
  · rename_i h
    simp only [List.length_map, Int.not_lt] at h ⊢
    rw [Int.toNat_natCast, List.take_length, List.take_of_length_le (by omega)]
theorem sslice_min {x r : RA} {k : Int} {s : List UInt8} (hx : ev x = .pv (.str s)) (hh : optIdx ev (s.length : Nat) (some r) = some (if false = true then (if k > (s.length : Int) then k else (s.length : Int)) else (if k < (s.length : Int) then k else (s.length : Int)))) (hk : 0 ≤ k) :
    step σ nm ev (.sslice x none (some r)) = some { v := .pv (.str (s.take k.toNat)) } := by
  rw [if_neg (by decide)] at hh
  rw [sslice_lh (l := 0) hx rfl hh (by decide) (by split <;> omega) (by split <;> omega)]
  congr 3
  rw [show ((0 : Int).toNat) = 0 from rfl, List.drop_zero]
  split
  · rfl
  · rename_i h
    rw [Int.toNat_natCast, List.take_length, List.take_of_length_le (by omega)]
end
end Go.Ab
namespace Go.Ab
section
variable {σ : Store} {nm : Nat} {ev : RA → AV}
theorem index_true {es i : Nat} {a b y : List PV} {x r : RA} (hy : [a, b][i]? = some y) (ha : a.length = es) (hb : b.length = es) (hx : (ev x).cells = (a ++ b).map .pv) (hg : (ev x).isAggV = true) (hi : ev r = .pv (.int .i64 (i : Int))) :
    step σ nm ev (.index true 2 es x r) = some { v := .agg (y.map .pv) } := by
  have hlt : i < 2 := (List.getElem?_eq_some_iff.1 hy).1
  have hl : (ev x).cells.length = 2 * es := by rw [hx]; simp [ha, hb]; omega
  simp only [step, hi, idxOf, hg, hl]
  rw [if_pos (by refine ⟨by omega, by show ((i : Nat) : Int) < ((2 : Nat) : Int); omega, ?_, ?_⟩ <;> first | trivial | rfl | assumption), hx]
  match i, hlt with
  | 0, _ =>
    cases hy
    simp [mkAgg, Eff.of, ← ha]
  | 1, _ =>
    cases hy
    simp [mkAgg, Eff.of, ← ha]
    rw [List.take_of_length_le (by simp [hb, ha])]
theorem index_false {i : Nat} {a b y : PV} {x r : RA} (hy : [a, b][i]? = some y) (hx : (ev x).cells = [.pv a, .pv b]) (hg : (ev x).isAggV = true) (hi : ev r = .pv (.int .i64 (i : Int))) :
    step σ nm ev (.index false 2 1 x r) = some { v := .pv y } := by
  have hlt : i < 2 := (List.getElem?_eq_some_iff.1 hy).1
  have hl : (ev x).cells.length = 2 * 1 := by rw [hx]; rfl
  simp only [step, hi, idxOf, hg, hl]
  rw [if_pos (by refine ⟨by omega, by show ((i : Nat) : Int) < ((2 : Nat) : Int); omega, ?_, ?_⟩ <;> first | trivial | rfl | assumption), hx]
  match i, hlt with
  | 0, _ => cases hy; rfl
  | 1, _ => cases hy; rfl
end
end Go.Ab
