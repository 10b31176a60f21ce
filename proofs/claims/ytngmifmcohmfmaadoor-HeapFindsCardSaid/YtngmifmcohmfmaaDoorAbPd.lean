/- A function that is said outright, with symbols. Under: nothing. -/
import Derived.Test.YtngmifmcohmfmaaDoorAbG6
namespace Go.Ab
theorem sD {o : Option (AV × Nat × Nat × List (List PV))} {v : AV} {c es : Nat} {rows : List (List PV)} {st : St} {K : AV → Nat → Nat → List (List PV) → T → Store → Nat → Nat → Prop} (h : o = some (v, c, es, rows)) (hK : K v c es rows st.tm st.σ st.nx st.nt) :
    opW.match_1 (fun _ _ => Prop) o st (fun v c es rows tm σ nx nt => K v c es rows tm σ nx nt) (fun _ => False) := by subst h; exact hK
theorem delete_at {es n i j b : Nat} {zero : List PV} {args : List AV} {σ : Store} {rows : List (List PV)} {y z : Int} (ha : args = [.own b 0 n, .pv (.int .i64 y), .pv (.int .i64 z)]) (hf : find σ b = some (.arr es rows false)) (hy : y = (i : Int)) (hz : z = (j : Int)) (hn : rows.length = n) (hij : i ≤ j) (hjn : j ≤ n) (hz0 : zero.length = es) :
    deleteE es zero args σ = some (.own b 0 (n - (j - i)), b, es, delRows zero rows i j) := by
  subst ha hy hz
  show deleteE es zero [.own b 0 n, .pv (.int .i64 (.ofNat i)), .pv (.int .i64 (.ofNat j))] σ = _
  simp only [deleteE, hf]
  rw [if_pos ⟨trivial, hn, hij, hjn, hz0⟩]
theorem del_rows {α : Type} {f : α → List PV} {l : List α} {zero : List PV} {n i : Nat} (hn : l.length = n) (hi : i < n) : List.take (n - (i + 1 - i)) (List.drop 0 (delRows zero (l.map f) i (i + 1))) = (l.eraseIdx i).map f := by
  unfold delRows
  rw [List.drop_zero, List.take_append_of_le_length (by simp; omega), List.take_of_length_le (by simp; omega), List.eraseIdx_eq_take_drop_succ, List.map_append, List.map_take, List.map_drop]
end Go.Ab
namespace Go.Ab
end Go.Ab
