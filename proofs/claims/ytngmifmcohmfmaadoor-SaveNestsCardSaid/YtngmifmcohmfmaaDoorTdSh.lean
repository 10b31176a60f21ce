/- SaveNests: states. Under: nothing. -/
import Derived.Test.YtngmifmcohmfmaaDoorTdSf
import Derived.Test.YtngmifmcohmfmaaDoorTdSe
namespace Go.Ab.Td
open Go Go.Ab
variable {P : Program}
set_option linter.unusedSimpArgs false
attribute [local irreducible] compat
def sns (h : List Cl) (j : Nat) : List Sn := (List.range j).map fun i : Nat => ⟨((i + 1 : Nat) : Int), h, (i : Int)⟩
def gsT (d : List Ob) (h : List Cl) (i : Nat) : Sta := { mkS [] d h with f45 := 10 + (i : Int) }
def gss (d : List Ob) (h : List Cl) (j : Nat) : List Sta := (List.range j).map (gsT d h)
/-- The state after j saves. -/
def stJ (d : List Ob) (h : List Cl) (j : Nat) : Sta := { mkS [] d h with f45 := if j = 0 then 1 else 10 + ((j : Int) - 1), f4 := (j : Int), f3 := (sns h j).map encSn, f62 := (gss d h j).map grO }
def stK (d : List Ob) (h : List Cl) (j : Nat) : Sta := { stJ d h j with f45 := IntKind.i64.wrap (10 + (j : Int)) }
theorem sns_len (h : List Cl) (j : Nat) : (sns h j).length = j := by simp [sns]
theorem gss_len (d : List Ob) (h : List Cl) (j : Nat) : (gss d h j).length = j := by simp [gss]
theorem save_step (d : List Ob) (h : List Cl) (j : Nat) (hj : j < 1000) : svS (stK d h j) = { stJ d h (j + 1) with ops := [svO ((j + 1 : Nat) : Int)] } := by
  have w1 : IntKind.i64.wrap ((j : Int) + 1) = ((j + 1 : Nat) : Int) := by rw [wrap_small (by omega) (by omega)]; omega
  have w2 : IntKind.i64.wrap (10 + (j : Int)) = 10 + (j : Int) := wrap_small (by omega) (by omega)
  have a3 : (sns h j).map encSn ++ [[.int .i64 ((j + 1 : Nat) : Int), .sl 7 (h.map encC), .int .i64 (((gss d h j).map grO).length : Int)]] = (sns h (j + 1)).map encSn := by
    simp [sns, gss, List.range_succ, encSn]
  have a62 : (gss d h j).map grO ++ [grO (gsT d h j)] = (gss d h (j + 1)).map grO := by simp [gss, List.range_succ]
  have a45 : (if j + 1 = 0 then (1 : Int) else 10 + (((j + 1 : Nat) : Int) - 1)) = 10 + (j : Int) := by rw [if_neg (by omega)]; omega
  have g : grO (stK d h j) = grO (gsT d h j) := by
    unfold stK gsT grO
    dsimp only [stJ, mkS]
    rw [w2]
  unfold svS
  rw [g]
  unfold stK stJ
  dsimp only [mkS]
  rw [w1, w2, a3, a62, a45]
  rfl
theorem plF_at (n : Int) : ∀ (l : List Sn) (i s : Nat) (x : Sn), l[i]? = some x → x.n = n → (∀ (k : Nat) (y : Sn), k < i → l[k]? = some y → y.n ≠ n) → plF n s l = ((s + i : Nat) : Int)
  | [], _, _, _, h, _, _ => by simp at h
  | y :: l, 0, s, x, h, hn, _ => by
    simp only [List.getElem?_cons_zero, Option.some.injEq] at h
    subst h
    simp [plF, hn]
  | y :: l, i + 1, s, x, h, hn, ho => by
    simp only [List.getElem?_cons_succ] at h
    have h0 := ho 0 y (by omega) rfl
    simp only [plF, if_neg h0]
    rw [plF_at n l i (s + 1) x h hn (fun k z hk hz => ho (k + 1) z (by omega) (by simpa using hz))]
    omega
theorem plF_no (n : Int) : ∀ (l : List Sn) (s : Nat), (∀ y ∈ l, y.n ≠ n) → plF n s l = -1
  | [], _, _ => rfl
  | y :: l, s, h => by
    have h0 := h y (by simp)
    simp only [plF, if_neg h0]
    exact plF_no n l (s + 1) fun z hz => h z (by simp [hz])
theorem sns_at (h : List Cl) {j i : Nat} (hi : i < j) : (sns h j)[i]? = some ⟨((i + 1 : Nat) : Int), h, (i : Int)⟩ := by
  simp [sns, List.getElem?_range hi]
theorem gss_at (d : List Ob) (h : List Cl) {j i : Nat} (hi : i < j) : (gss d h j)[i]? = some (gsT d h i) := by
  simp [gss, List.getElem?_range hi]
theorem plF_sns (h : List Cl) {j i : Nat} (hi : i < j) : plF ((i + 1 : Nat) : Int) 0 (sns h j) = (i : Int) := by
  rw [plF_at _ _ i 0 _ (sns_at h hi) rfl, Nat.zero_add]
  intro k y hk hy
  rw [sns_at h (by omega)] at hy
  cases hy
  dsimp only
  omega
theorem plF_sns_no (h : List Cl) {j : Nat} {n : Int} (hn : (j : Int) < n) : plF n 0 (sns h j) < 0 := by
  rw [plF_no n _ 0]
  · decide
  · intro y hy
    obtain ⟨i, hi, rfl⟩ := List.mem_map.1 hy
    have := List.mem_range.1 hi
    dsimp only
    omega
theorem sns_take (h : List Cl) {j i : Nat} (hi : i ≤ j) : ((sns h j).map encSn).take i = (sns h i).map encSn := by
  unfold sns
  rw [← List.map_take, ← List.map_take, List.take_range, Nat.min_eq_left hi]
theorem gss_take (d : List Ob) (h : List Cl) {j i : Nat} (hi : i ≤ j) : ((gss d h j).map grO).take i = (gss d h i).map grO := by
  unfold gss
  rw [← List.map_take, ← List.map_take, List.take_range, Nat.min_eq_left hi]
theorem not_newer {d : List Ob} {h : List Cl} (hd : ∀ o ∈ d, ∃ j : Int, o = dO j ∧ 0 ≤ j ∧ j < h.length) : ¬ ∃ o ∈ d, newerP h.length o := by
  rintro ⟨o, ho, -, hn⟩
  obtain ⟨j, rfl, -, h2⟩ := hd o ho
  exact absurd hn (by show ¬ (h.length : Int) ≤ j; omega)
theorem not_newer0 {c : Int} : ¬ ∃ o ∈ ([] : List Ob), newerP c o := by simp
/-- Restoring save i + 1 of j. -/
theorem ok_nest (C : Laid P) (r : Sta) (d : List Ob) (h : List Cl) {j i : Nat} (hi : i < j) (hj : j ≤ 100) (hop : r.ops = [svO ((i + 1 : Nat) : Int)]) (h3 : r.f3 = (sns h j).map encSn) (h62 : r.f62 = (gss d h j).map grO) (hd : r.dicts = d) (hdl : d.length ≤ 100) (hdd : ∀ o ∈ d, ∃ j : Int, o = dO j ∧ 0 ≤ j ∧ j < h.length) :
    OkC P G n_save_Do [aS r, .str [114, 101, 115, 116, 111, 114, 101]] [] (.tup [aS (rsS r [] h (gsT d h i) i i), pI 0]) :=
  ok_saveDo_restore C r _ 0 (ok_restore_yes C r (sns h j) [] ((i + 1 : Nat) : Int) hop h3 (by rw [sns_len]; omega) (by simp) (by rw [hd]; omega) i i (plF_sns h hi) ((i + 1 : Nat) : Int) h (sns_at h hi) (gsT d h i) (by rw [h62, List.getElem?_map, gss_at d h hi]; rfl) not_newer0 (by rw [hd]; exact not_newer hdd))
theorem ok_nest_no (C : Laid P) (r : Sta) (h : List Cl) {j : Nat} {n : Int} (hn : (j : Int) < n) (hj : j ≤ 100) (hop : r.ops = [svO n]) (h3 : r.f3 = (sns h j).map encSn) :
    OkC P G n_save_Do [aS r, .str [114, 101, 115, 116, 111, 114, 101]] [] (.tup [aS r, pI 34]) :=
  ok_saveDo_restore C r _ 34 (ok_restore_no C r (sns h j) [] n hop h3 (by rw [sns_len]; omega) (by simp) (plF_sns_no h hn))
theorem ok_nest_save (C : Laid P) (d : List Ob) (h : List Cl) (j : Nat) (hj : j < 10) : OkC P G n_save_Do [aS (stK d h j), .str [115, 97, 118, 101]] [] (.tup [aS { stJ d h (j + 1) with ops := [svO ((j + 1 : Nat) : Int)] }, pI 0]) := by
  rw [← save_step d h j (by omega)]
  exact ok_saveDo_save C (stK d h j) _ 0 (ok_save_keeper_save C (stK d h j) (by show ((sns h j).map encSn).length < 10; rw [List.length_map, sns_len]; exact hj) (by show ((gss d h j).map grO).length < 20; rw [List.length_map, gss_len]; omega) (by show ([] : List Ob).length < 100; decide))

end Go.Ab.Td
