/- Joined texts: Sp1, Sp4, Sp2, Sp3. Under: nothing. -/
import Derived.Test.YtngmifmcohmfmaaDoorSp0
import Derived.Test.YtngmifmcohmfmaaDoorAbG6
/- What the functions on objects and heaps answer: the program's and the reference's alike. Under: nothing. -/
namespace Go.Ab
open Classical
noncomputable section

def ob0 : Ob := ⟨0, false, 0, [], 0, 0, 0⟩
def cl0 : Cl := ⟨0, [], [], [], [], 0, 0⟩
def Ob.ck (o : Ob) : Int := if o.right then 0 else 200
def cellK (k : Int) : Int := if k = 6 then 1 else if k = 7 ∨ k = 8 then 2 else if k = 9 then 3 else if k = 11 then 4 else 0
def Cl.length (c : Cl) : Int := if c.kind = 1 then c.bytes.length else c.items.length
/-- An object fits a heap. -/
def fits (h : List Cl) (o : Ob) : Prop := o.right ∧ (cellK o.kind ≠ 0 → ∃ c, h[o.ref.toNat]? = some c ∧ c.kind = cellK o.kind ∧ (o.kind ≠ 9 ∧ o.kind ≠ 11 → o.off + o.len ≤ c.length))
def Ob.isNum (o : Ob) : Prop := o.kind = 3 ∨ o.kind = 4
def Ob.val (o : Ob) : Int := if o.kind = 3 then IntKind.i64.wrap (o.n * 65536) else o.n
def Ob.key (o : Ob) : Ob := if o.kind = 4 ∧ o.n.tmod 65536 = 0 then ⟨3, false, o.n.tdiv 65536, [], 0, 0, 0⟩ else { o with exec := false }
/-- The cell that an object refers to. -/
def cellAt (h : List Cl) (o : Ob) : Cl := (h[o.ref.toNat]?).getD cl0
def sub (h : List Cl) (o : Ob) : List UInt8 := ((cellAt h o).bytes.take (o.off + o.len).toNat).drop o.off.toNat
def subI (h : List Cl) (o : Ob) : List Ob := ((cellAt h o).items.take (o.off + o.len).toNat).drop o.off.toNat
def nmO (s : List UInt8) : Ob := ⟨5, false, 0, s, 0, 0, 0⟩
def oKey (o : Ob) : Ob × Int := if ¬ o.right then (ob0, 200) else if o.kind = 0 ∨ o.kind = 6 then (ob0, 22) else (o.key, 0)
def vErr (h : List Cl) (o : Ob) (ks : List Int) : Int := if ¬ fits h o then 2 else if o.kind ∈ ks then 0 else 22
def look (c : Cl) (k : Ob) : Option Ob := if idxFrom k 0 c.keys < 0 then none else c.vals[(idxFrom k 0 c.keys).toNat]?
def putKV (c : Cl) (k v : Ob) : Option Cl :=
  if 0 ≤ idxFrom k 0 c.keys ∧ idxFrom k 0 c.keys < c.vals.length then some { c with vals := c.vals.set (idxFrom k 0 c.keys).toNat v }
  else if c.max ≤ c.keys.length then none else some { c with keys := c.keys ++ [k], vals := c.vals ++ [v] }
theorem kinds13 {Q : Prop} (k : Int) (h0 : 0 ≤ k) (h1 : k < 13) (c0 : k = 0 → Q) (c1 : k = 1 → Q) (c2 : k = 2 → Q) (c3 : k = 3 → Q) (c4 : k = 4 → Q) (c5 : k = 5 → Q) (c6 : k = 6 → Q) (c7 : k = 7 → Q) (c8 : k = 8 → Q) (c9 : k = 9 → Q) (c10 : k = 10 → Q) (c11 : k = 11 → Q) (c12 : k = 12 → Q) : Q := by
  have : k = 0 ∨ k = 1 ∨ k = 2 ∨ k = 3 ∨ k = 4 ∨ k = 5 ∨ k = 6 ∨ k = 7 ∨ k = 8 ∨ k = 9 ∨ k = 10 ∨ k = 11 ∨ k = 12 := by omega
  rcases this with h | h | h | h | h | h | h | h | h | h | h | h | h
  · exact c0 h
  · exact c1 h
  · exact c2 h
  · exact c3 h
  · exact c4 h
  · exact c5 h
  · exact c6 h
  · exact c7 h
  · exact c8 h
  · exact c9 h
  · exact c10 h
  · exact c11 h
  · exact c12 h
theorem right_ref {o : Ob} (h : o.right) : 0 ≤ o.ref ∧ o.ref ≤ 20000 := by
  obtain ⟨-, ⟨-, -, h3, -⟩, -, -, -, -, -, -, -, h9⟩ := h
  rcases h3 with h3 | h3
  · omega
  · exact h9 (by omega)
theorem right_off {o : Ob} (h : o.right) : 0 ≤ o.off ∧ 0 ≤ o.len ∧ o.off + o.len ≤ 1000 := by
  obtain ⟨-, ⟨-, -, -, h4, h5⟩, -, -, -, -, -, -, h8, -⟩ := h
  by_cases hk : o.kind = 6 ∨ o.kind = 7 ∨ o.kind = 8
  · exact h8 hk
  · omega
theorem cellK_cases (k : Int) : (k = 6 ∧ cellK k = 1) ∨ ((k = 7 ∨ k = 8) ∧ cellK k = 2) ∨ (k = 9 ∧ cellK k = 3) ∨ (k = 11 ∧ cellK k = 4) ∨ (k ≠ 6 ∧ k ≠ 7 ∧ k ≠ 8 ∧ k ≠ 9 ∧ k ≠ 11 ∧ cellK k = 0) := by
  by_cases h6 : k = 6
  · exact .inl ⟨h6, by simp [cellK, h6]⟩
  by_cases h7 : k = 7 ∨ k = 8
  · exact .inr (.inl ⟨h7, by simp [cellK, h6, h7]⟩)
  by_cases h9 : k = 9
  · exact .inr (.inr (.inl ⟨h9, by simp [cellK, h9]⟩))
  by_cases h11 : k = 11
  · exact .inr (.inr (.inr (.inl ⟨h11, by simp [cellK, h11]⟩)))
  · exact .inr (.inr (.inr (.inr ⟨h6, by omega, by omega, h9, h11, by simp [cellK, h6, h7, h9, h11]⟩)))
/-- What a fitting object refers to. -/
theorem fits_cell {h : List Cl} {o : Ob} (hf : fits h o) (hk : cellK o.kind ≠ 0) : h[o.ref.toNat]? = some (cellAt h o) ∧ (cellAt h o).kind = cellK o.kind ∧ (o.kind ≠ 9 ∧ o.kind ≠ 11 → o.off + o.len ≤ (cellAt h o).length) := by
  obtain ⟨c, hc, h1, h2⟩ := hf.2 hk
  have : cellAt h o = c := by simp [cellAt, hc]
  rw [this]; exact ⟨hc, h1, h2⟩
end
end Go.Ab
namespace Go.Ab
open Classical
theorem ck_eq0 (o : Ob) : (o.ck = 0) = o.right := by unfold Ob.ck; split <;> simp_all
theorem ck_ne0 (o : Ob) : (o.ck = 200) = ¬ o.right := by unfold Ob.ck; split <;> simp_all
theorem right_kind {o : Ob} (h : o.right) : 0 ≤ o.kind ∧ o.kind ≤ 12 := h.1
theorem row_at {α : Type} {f : α → List PV} {l : List α} {d : α} {j : Int} (h0 : 0 ≤ j) (h1 : j < l.length) : (l.map f)[j.toNat]? = some (f ((l[j.toNat]?).getD d)) := by
  have : j.toNat < l.length := by omega
  simp [List.getElem?_eq_getElem this]
theorem fits_iff {h : List Cl} {o : Ob} (hr : o.right) : fits h o ↔ (cellK o.kind = 0 ∨ (o.ref < h.length ∧ (cellAt h o).kind = cellK o.kind ∧ (o.kind = 9 ∨ o.kind = 11 ∨ o.off + o.len ≤ (cellAt h o).length))) := by
  have hb := right_ref hr
  constructor
  · intro hf
    by_cases hk : cellK o.kind = 0
    · exact .inl hk
    · obtain ⟨h1, h2, h3⟩ := fits_cell hf hk
      have := (List.getElem?_eq_some_iff.1 h1).1
      refine .inr ⟨by omega, h2, ?_⟩
      by_cases h9 : o.kind = 9
      · exact .inl h9
      · by_cases h11 : o.kind = 11
        · exact .inr (.inl h11)
        · exact .inr (.inr (h3 ⟨h9, h11⟩))
  · intro hx
    refine ⟨hr, fun hk => ?_⟩
    rcases hx with hx | ⟨h1, h2, h3⟩
    · exact absurd hx hk
    · have : o.ref.toNat < h.length := by omega
      have hc : h[o.ref.toNat]? = some (cellAt h o) := by simp [cellAt, List.getElem?_eq_getElem this]
      exact ⟨_, hc, h2, fun h9 => by rcases h3 with h | h | h <;> first | exact h | (exact absurd h h9.1) | (exact absurd h h9.2)⟩
end Go.Ab
namespace Go.Ab
open Classical
def idxInt (k : Int) : Nat → List Int → Int
  | _, [] => -1
  | i, x :: l => if k = x then (i : Int) else idxInt k (i + 1) l
theorem idxInt_mem (k : Int) : ∀ (l : List Int) (i : Nat), (0 ≤ idxInt k i l) ↔ k ∈ l
  | [], i => by simp [idxInt]
  | x :: l, i => by
    unfold idxInt
    split
    · rename_i h; simp [h]
    · rename_i h; rw [idxInt_mem k l (i + 1)]; simp [h]
theorem vErr_ok {h : List Cl} {o : Ob} {ks : List Int} (hv : vErr h o ks = 0) : fits h o ∧ o.kind ∈ ks := by
  unfold vErr at hv
  split at hv
  · cases hv
  · rename_i hf
    split at hv
    · rename_i hk; exact ⟨Classical.not_not.1 hf, hk⟩
    · cases hv
theorem vErr_bad {h : List Cl} {o : Ob} {ks : List Int} (hv : vErr h o ks ≠ 0) : (¬ fits h o ∧ vErr h o ks = 2) ∨ (fits h o ∧ ¬ o.kind ∈ ks ∧ vErr h o ks = 22) := by
  unfold vErr at hv ⊢
  split
  · rename_i hf; exact .inl ⟨hf, rfl⟩
  · rename_i hf
    split
    · rename_i hk; simp [hf, hk] at hv
    · rename_i hk; exact .inr ⟨Classical.not_not.1 hf, hk, rfl⟩
end Go.Ab

/- How tests are decided in runs with symbols. Under: nothing. -/
namespace Go.Ab
theorem oT {b : Bool} {A B C : Prop} (k : A) (h : b = true := by first | assumption | (simp only [eqO, Ob.eta, Cl.eta, tt_true, tt_false, decide_eq_true_eq, decide_eq_false_iff_not, beq_iff_eq, beq_eq_false_iff_ne, bne_iff_ne, ne_eq, Bool.not_eq_true, Bool.not_eq_false, Bool.not_eq_eq_eq_not, Bool.not_true, Bool.not_false, Decidable.not_not, Int.not_lt, Int.not_le, gt_iff_lt, ge_iff_le, bne_eq_false_iff_eq, List.length_map, ck_eq0, ck_ne0]; first | done | assumption | omega)) : (b = true ∧ A) ∨ B ∨ C := .inl ⟨h, k⟩
theorem oF {b : Bool} {A B C : Prop} (k : A) (h : b = false := by first | assumption | (simp only [eqO, Ob.eta, Cl.eta, tt_true, tt_false, decide_eq_true_eq, decide_eq_false_iff_not, beq_iff_eq, beq_eq_false_iff_ne, bne_iff_ne, ne_eq, Bool.not_eq_true, Bool.not_eq_false, Bool.not_eq_eq_eq_not, Bool.not_true, Bool.not_false, Decidable.not_not, Int.not_lt, Int.not_le, gt_iff_lt, ge_iff_le, bne_eq_false_iff_eq, List.length_map, ck_eq0, ck_ne0]; first | done | assumption | omega)) : B ∨ (b = false ∧ A) ∨ C := .inr (.inl ⟨h, k⟩)
end Go.Ab

/- Facts about dictionaries in cells. Under: nothing. -/
namespace Go.Ab
open Classical
/-- Lists of a length that a machine can hold. -/
def Cl.small (c : Cl) : Prop := c.keys.length ≤ 1000000 ∧ c.vals.length ≤ 1000000 ∧ c.items.length ≤ 1000000 ∧ c.bytes.length ≤ 1000000
def small (h : List Cl) : Prop := h.length ≤ 1000000 ∧ ∀ c ∈ h, c.small
theorem small_at {h : List Cl} (hs : small h) (o : Ob) : (cellAt h o).small := by
  unfold cellAt
  cases hc : h[o.ref.toNat]? with
  | none => simp [cl0, Cl.small]
  | some c => exact hs.2 c (List.mem_of_getElem? hc)
theorem view_facts {h : List Cl} {o : Ob} {ks : List Int} (hv : vErr h o ks = 0) : (0 ≤ o.ref ∧ o.ref ≤ 20000) ∧ (0 ≤ o.off ∧ 0 ≤ o.len ∧ o.off + o.len ≤ 1000) ∧ o.kind ∈ ks ∧ (cellK o.kind = 0 ∨ (o.ref < h.length ∧ (cellAt h o).kind = cellK o.kind ∧ (o.kind = 9 ∨ o.kind = 11 ∨ o.off + o.len ≤ (cellAt h o).length))) := by
  obtain ⟨hf, hk⟩ := vErr_ok hv
  exact ⟨right_ref hf.1, right_off hf.1, hk, (fits_iff hf.1).1 hf⟩
noncomputable def numE (o : Ob) : Int := if ¬ o.right then 200 else if o.kind = 3 ∨ o.kind = 4 then 0 else 22
noncomputable def mkInt (n : Int) : Ob × Int := if -2147483648 ≤ n ∧ n ≤ 2147483647 then (⟨3, false, n, [], 0, 0, 0⟩, 0) else (ob0, 2)
theorem right_int (n : Int) : (⟨3, false, n, [], 0, 0, 0⟩ : Ob).right ↔ (-2147483648 ≤ n ∧ n ≤ 2147483647) := by
  unfold Ob.right Ob.blank; simp
theorem right_nm (s : List UInt8) (e : Bool) : (⟨5, e, 0, s, 0, 0, 0⟩ : Ob).right ↔ s.length ≤ 100 := by
  unfold Ob.right Ob.blank; simp
theorem right_real {o : Ob} (h : o.right) (hk : o.kind = 4) : -2147483648 ≤ o.n ∧ o.n ≤ 2147483648 := by
  obtain ⟨-, -, -, -, h4, -⟩ := h
  exact h4 hk
theorem right_null {o : Ob} (h : o.right) (hk : o.kind = 0) : o = ⟨0, o.exec, 0, [], 0, 0, 0⟩ := by
  obtain ⟨-, ⟨b1, b2, b3, b4, b5⟩, -⟩ := h
  have e1 : o.n = 0 := by omega
  have e2 : o.name = [] := List.length_eq_zero_iff.1 (by omega)
  have e3 : o.ref = 0 := by omega
  have e4 : o.off = 0 := by omega
  have e5 : o.len = 0 := by omega
  cases o; simp_all
theorem tdiv_bound {n : Int} (h1 : -2147483648 ≤ n) (h2 : n ≤ 2147483648) : -32768 ≤ n.tdiv 65536 ∧ n.tdiv 65536 ≤ 32768 := by
  rcases Int.le_total 0 n with h | h
  · rw [Int.tdiv_eq_ediv_of_nonneg h]; omega
  · have e : n.tdiv 65536 = -((-n).tdiv 65536) := by rw [Int.neg_tdiv, Int.neg_neg]
    rw [e, Int.tdiv_eq_ediv_of_nonneg (by omega)]; omega
end Go.Ab

/- States. Under: nothing. -/
namespace Go.Ab
open Classical

/-- A state of a job. -/
structure Sta where
  ops : List Ob
  dicts : List Ob
  heap : List Cl
  f3 : List (List PV)
  f4 : Int
  f5 : Int
  f6 : Int
  f7 : Int
  f8 : Int
  f9 : Int
  f10 : Int
  f11 : List (List PV)
  f12 : Int
  f13 : Int
  f14 : Int
  f15 : Int
  f16 : Int
  f17 : Int
  f18 : Int
  f19 : Int
  f20 : Int
  f21 : Int
  f22 : Int
  f23 : Int
  f24 : Int
  f25 : Int
  f26 : Int
  f27 : Int
  f28 : Int
  f29 : Int
  f30 : Int
  f31 : Int
  f32 : Bool
  f33 : Bool
  f34 : List (List PV)
  f35 : Int
  f36 : Int
  f37 : Int
  f38 : Int
  f39 : Int
  f40 : Int
  f41 : Int
  f42 : Int
  f43 : List (List PV)
  f44 : Int
  f45 : Int
  f46 : List (List PV)
  f47 : Int
  f48 : Bool
  f49 : Int
  f50 : List UInt8
  f51 : Int
  f52 : Int
  f53 : Int
  f54 : Int
  f55 : Int
  f56 : Int
  f57 : Int
  f58 : Int
  f59 : Int
  f60 : Int
  f61 : Int
  f62 : List (List PV)
  f63 : List (List PV)
  f64 : List (List PV)
  f65 : List UInt8
  f66 : Int

end Go.Ab
