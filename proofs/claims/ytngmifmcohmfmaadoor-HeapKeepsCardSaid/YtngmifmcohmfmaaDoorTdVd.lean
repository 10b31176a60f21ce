/- Joined texts: TdVa, TdVb, TdVc, TdVd. Under: nothing. -/
import Derived.Test.YtngmifmcohmfmaaDoorTdHeap
/- Cells of drafts, field by field. Under: nothing. -/
namespace Go.Ab.Td
open Go Go.Ab
/-- A slice of objects, each of them F. -/
def SlF (F : List PV → Prop) (q : PV) (m : Nat) : Prop := (q = .emp 7 ∧ m = 0) ∨ ∃ rr : List (List PV), q = .sl 7 rr ∧ rr.length = m ∧ ∀ x ∈ rr, F x
/-- The first m names of Words. -/
def SlK (q : PV) (m : Nat) : Prop := (q = .emp 7 ∧ m = 0) ∨ q = .sl 7 ((List.range m).map fun i : Nat => nameR (wordAt (i : Int)))
/-- A draft's cell. -/
def CellV (F : List PV → Prop) (r : List PV) : Prop :=
  (∃ s : List UInt8, s.length ≤ 40 ∧ r = [.int .i64 1, .str s, .emp 7, .emp 7, .emp 7, .int .i64 0, .int .i64 0]) ∨
  (∃ (q : PV) (m : Nat), m ≤ 5 ∧ SlF F q m ∧ r = [.int .i64 2, .str [], q, .emp 7, .emp 7, .int .i64 0, .int .i64 0]) ∨
  (∃ (qk qv : PV) (m mx : Nat), m ≤ mx ∧ mx ≤ 5 ∧ SlK qk m ∧ SlF F qv m ∧ r = [.int .i64 3, .str [], .emp 7, qk, qv, .int .i64 (mx : Int), .int .i64 0]) ∨
  (∃ (s : List UInt8) (a mx : Int), s.length ≤ 40 ∧ 0 ≤ a ∧ a ≤ s.length ∧ (mx = 0 ∨ mx = 1) ∧ r = [.int .i64 4, .str s, .emp 7, .emp 7, .emp 7, .int .i64 mx, .int .i64 a])
theorem i32_range (x : Int) : -2147483648 ≤ IntKind.i32.wrap x ∧ IntKind.i32.wrap x ≤ 2147483647 := by
  have e : IntKind.i32.wrap x = if x % 4294967296 ≥ 2147483648 then x % 4294967296 - 4294967296 else x % 4294967296 := by
    show (if (true && decide (x % (2 ^ 32 : Int) ≥ (2 ^ 31 : Int))) = true then x % (2 ^ 32 : Int) - (2 ^ 32 : Int) else x % (2 ^ 32 : Int)) = _
    simp
  rw [e]; split <;> omega
attribute [local irreducible] compat

section
variable (F : List PV → Prop) (Ok : Nat → List PV → Own → PV → Prop) (rows : List (List PV)) (K A B N : Int) (S : List UInt8) (hA : 0 ≤ A ∧ A < 256) (hB : 0 ≤ B ∧ B < 256)
variable (hO : ∀ K' A' B' N' S', 0 ≤ A' ∧ A' < 256 → 0 ≤ B' ∧ B' < 256 → -2147483648 ≤ N' ∧ N' ≤ 2147483647 → ∃ r, (F r ∧ ObjR r) ∧ Ok n_ref11_Word_Obj [wordV K' A' B' N' S', .sl 7 rows] [] (.agg r))
variable (h65 : ∀ n, Ok n_ref11_dict [.int .i64 n] [] (dictV n)) (h66 : ∀ s, Ok n_ref11_name [.str s] [] (nameV s))
include hA hB hO h65 h66

set_option maxHeartbeats 4000000 in
set_option maxRecDepth 100000 in
theorem cellV0 (h0 : (K.tmod 5 == 0) = true) : ∃ r, CellV F r ∧ fnW wG Ok noX noT noT 0 c_ref11_Word_Cell [wordV K A B N S, .sl 7 rows] (.agg r) := by
  have _u := And.intro hA (And.intro hB (And.intro hO (And.intro h65 h66)))
  have hm : 0 ≤ (if (40 : Int) < S.length then (40 : Int) else (S.length : Int)) ∧ (if (40 : Int) < S.length then (40 : Int) else (S.length : Int)) ≤ S.length := by split <;> omega
  have hc := cut40_le S
  · apply Exists.intro
    apply And.intro
    rotate_left
    · conv => whnf
      refine stuckStep (sslice_at (s := S) (h := if (40 : Int) < S.length then (40 : Int) else (S.length : Int)) (by rfl) (by rfl) hm.1 hm.2) ?_
      conv => whnf
      refine stuckT h0 ?_
      conv => whnf
      refine stuckT h0 ?_
      conv => whnf
    · exact .inl ⟨_, hc, rfl⟩

set_option maxHeartbeats 4000000 in
set_option maxRecDepth 100000 in
theorem cellV1 (h0 : (K.tmod 5 == 0) = false) (h1 : (K.tmod 5 == 1) = true) : ∃ r, CellV F r ∧ fnW wG Ok noX noT noT 0 c_ref11_Word_Cell [wordV K A B N S, .sl 7 rows] (.agg r) := by
  have _u := And.intro hA (And.intro hB (And.intro hO (And.intro h65 h66)))
  have hm : 0 ≤ (if (40 : Int) < S.length then (40 : Int) else (S.length : Int)) ∧ (if (40 : Int) < S.length then (40 : Int) else (S.length : Int)) ≤ S.length := by split <;> omega
  have hc := cut40_le S
  · apply Exists.intro
    apply And.intro
    rotate_left
    · conv => whnf
      refine stuckStep (sslice_at (s := S) (h := if (40 : Int) < S.length then (40 : Int) else (S.length : Int)) (by rfl) (by rfl) hm.1 hm.2) ?_
      conv => whnf
      refine stuckF h0 ?_
      conv => whnf
      refine stuckT h1 ?_
      conv => whnf
    · exact .inl ⟨_, hc, rfl⟩

set_option maxHeartbeats 4000000 in
set_option maxRecDepth 100000 in
theorem cellV4 (h0 : (K.tmod 5 == 0) = false) (h1 : (K.tmod 5 == 1) = false) (h2 : (K.tmod 5 == 2) = false) (h3 : (K.tmod 5 == 3) = false) : ∃ r, CellV F r ∧ fnW wG Ok noX noT noT 0 c_ref11_Word_Cell [wordV K A B N S, .sl 7 rows] (.agg r) := by
  have _u := And.intro hA (And.intro hB (And.intro hO (And.intro h65 h66)))
  have hm : 0 ≤ (if (40 : Int) < S.length then (40 : Int) else (S.length : Int)) ∧ (if (40 : Int) < S.length then (40 : Int) else (S.length : Int)) ≤ S.length := by split <;> omega
  have hc := cut40_le S
  have hne : IntKind.i64.wrap (((cut40 S).length : Int) + 1) ≠ 0 := by rw [wrap_small (by omega) (by omega)]; omega
  · apply Exists.intro
    apply And.intro
    rotate_left
    · conv => whnf
      refine stuckStep (sslice_at (s := S) (h := if (40 : Int) < S.length then (40 : Int) else (S.length : Int)) (by rfl) (by rfl) hm.1 hm.2) ?_
      conv => whnf
      refine stuckF h0 ?_
      conv => whnf
      refine stuckF h1 ?_
      conv => whnf
      refine stuckF h2 ?_
      conv => whnf
      refine stuckF h3 ?_
      conv => whnf
      refine stuckStep (rem_at (k := .i64) (a := IntKind.i64.wrap A) (by rfl) (by rfl) hne) ?_
      conv => whnf
      refine stuckT (by kernel_rfl) ?_
      conv => whnf
    · refine .inr (.inr (.inr ⟨_, _, _, hc, ?_, ?_, ?_, rfl⟩))
      · exact Int.tmod_nonneg _ (by rw [wrap_small (by omega) (by omega)]; exact hA.1)
      · have e : IntKind.i64.wrap (((cut40 S).length : Int) + 1) = ((cut40 S).length : Int) + 1 := wrap_small (by omega) (by omega)
        have q := Int.tmod_lt_of_pos (IntKind.i64.wrap A) (show 0 < IntKind.i64.wrap (((cut40 S).length : Int) + 1) by rw [e]; omega)
        rw [e] at q ⊢
        exact Int.lt_add_one_iff.1 q
      · have r2 : 0 ≤ B.tmod 2 ∧ B.tmod 2 < 2 := ⟨Int.tmod_nonneg _ hB.1, Int.tmod_lt_of_pos _ (by decide)⟩
        rw [wrap_small (by omega) (by omega)]
        omega

end
end Go.Ab.Td

/- Cells of drafts, field by field: arrays. Under: nothing. -/
namespace Go.Ab.Td
open Go Go.Ab
attribute [local irreducible] compat

set_option maxHeartbeats 4000000 in
set_option maxRecDepth 100000 in
theorem cellV2 (F : List PV → Prop) (Ok : Nat → List PV → Own → PV → Prop) (rows : List (List PV)) (K A B N : Int) (S : List UInt8) (hA : 0 ≤ A ∧ A < 256)
    (hO : ∀ K' A' B' N' S', 0 ≤ A' ∧ A' < 256 → 0 ≤ B' ∧ B' < 256 → -2147483648 ≤ N' ∧ N' ≤ 2147483647 → ∃ r, (F r ∧ ObjR r) ∧ Ok n_ref11_Word_Obj [wordV K' A' B' N' S', .sl 7 rows] [] (.agg r))
    (h0 : (K.tmod 5 == 0) = false) (h1 : (K.tmod 5 == 1) = false) (h2 : (K.tmod 5 == 2) = true) : ∃ r, CellV F r ∧ fnW wG Ok noX noT noT 0 c_ref11_Word_Cell [wordV K A B N S, .sl 7 rows] (.agg r) := by
  have hm : 0 ≤ (if (40 : Int) < S.length then (40 : Int) else (S.length : Int)) ∧ (if (40 : Int) < S.length then (40 : Int) else (S.length : Int)) ≤ S.length := by split <;> omega
  obtain ⟨f, hf⟩ := Classical.axiomOfChoice (fun i : Nat => hO _ _ (IntKind.i32.wrap (N.tdiv (IntKind.i32.wrap (IntKind.i64.wrap ((i : Int) + 1))))) [] (u8_range (A + IntKind.u8.wrap (i : Int))) (u8_range (B * IntKind.u8.wrap (IntKind.i64.wrap ((i : Int) + 1)))) (i32_range _) (K' := IntKind.u8.wrap (B + IntKind.u8.wrap (IntKind.i64.wrap (5 * (i : Int))))))
  obtain ⟨a, ha⟩ : ∃ a : Nat, A.tmod 6 = a := ⟨(A.tmod 6).toNat, by have := Int.tmod_nonneg 6 hA.1; omega⟩
  have ha6 : a < 6 := by have := Int.tmod_lt_of_pos A (show (0 : Int) < 6 by decide); omega
  have hw : IntKind.i64.wrap (A.tmod 6) = a := by rw [ha, wrap_small (by omega) (by omega)]
  let items : List (List PV) := (List.range a).map f
  refine ⟨[.int .i64 2, .str [], match items with | [] => .emp 7 | x :: L => .sl 7 (((x :: L).drop 0).take a), .emp 7, .emp 7, .int .i64 0, .int .i64 0], ?_, ?_⟩
  · have hit : ∀ x ∈ items, F x := by
      intro x hx
      obtain ⟨i, _, rfl⟩ := List.mem_map.1 hx
      exact (hf i).1.1
    have hil : items.length = a := by simp [items]
    refine .inr (.inl ⟨_, a, by omega, ?_, rfl⟩)
    revert hit hil
    generalize items = L
    intro hit hil
    cases L with
    | nil => exact .inl ⟨rfl, by simpa using hil.symm⟩
    | cons x L =>
      refine .inr ⟨_, rfl, ?_, ?_⟩
      · simp only [List.drop_zero, List.length_take]; omega
      · intro y hy
        exact hit y (List.mem_of_mem_take (by simpa using hy))
  · conv => whnf
    refine stuckStep (sslice_at (s := S) (h := if (40 : Int) < S.length then (40 : Int) else (S.length : Int)) (by rfl) (by rfl) hm.1 hm.2) ?_
    conv => whnf
    refine stuckF h0 ?_
    conv => whnf
    refine stuckF h1 ?_
    conv => whnf
    refine stuckT h2 ?_
    conv => whnf
    intro X hX _
    have key : ∀ (m i : Nat) (s : St), i + m = a → norm [1, 2, 4, 6, 7] s = cSt rows K A B N S (i : Int) i ((List.range i).map f) → X s := by
      intro m
      induction m with
      | zero =>
        intro i s hi hs
        refine loop_norm hX s ?_
        rw [hs]
        have hia : i = a := by omega
        subst hia
        have hlt : decide ((i : Int) < IntKind.i64.wrap (A.tmod 6)) = false := by rw [hw]; simp
        show aw wG Ok _ true _ _ (cSt rows K A B N S (i : Int) i items)
        generalize items = L
        cases L with
        | nil =>
          conv => whnf
          refine stuckF hlt ?_
          conv => whnf
        | cons x L =>
          conv => whnf
          refine stuckF hlt ?_
          conv => whnf
      | succ m ih =>
        intro i s hi hs
        refine loop_norm hX s ?_
        rw [hs]
        obtain ⟨⟨_, q1, q2, q3, q4, q5, q6, q7, hqn, hfi⟩, hp⟩ := hf i
        have hlt : decide ((i : Int) < IntKind.i64.wrap (A.tmod 6)) = true := by rw [hw]; simp; omega
        have hb : IntKind.i32.wrap (IntKind.i64.wrap ((i : Int) + 1)) ≠ 0 := by rw [wrap_small (by omega) (by omega), wrap32_small (by omega) (by omega)]; omega
        have hnext : (List.range (i + 1)).map f = (List.range i).map f ++ [f i] := by simp [List.range_succ]
        have hw1 : IntKind.i64.wrap ((i : Int) + 1) = ((i + 1 : Nat) : Int) := by rw [wrap_small (by omega) (by omega)]; omega
        have hgo : ∀ s', norm [1, 2, 4, 6, 7] s' = cSt rows K A B N S (IntKind.i64.wrap ((i : Int) + 1)) (i + 1) ((List.range i).map f ++ [f i]) → X s' := fun s' h => ih (i + 1) s' (by omega) (by rw [h, hw1, hnext])
        have hlen : ((List.range i).map f).length = i := by simp
        clear hnext ih hs
        rw [hfi] at hgo hp
        generalize (List.range i).map f = L at hgo hlen ⊢
        cases L with
        | nil =>
          conv => whnf
          refine stuckT hlt ?_
          conv => whnf
          refine stuckStep (quo_at (k := .i32) (by rfl) (by rfl) hb) ?_
          conv => whnf
          refine stuckT (by kernel_rfl) ?_
          conv => whnf
          refine ⟨_, _, hp, ?_⟩
          conv => whnf
          refine stuckT (by kernel_rfl) ?_
          conv => whnf
          simp only [List.length_nil] at hlen
          subst hlen
          exact hgo _ rfl
        | cons x L =>
          conv => whnf
          refine stuckT hlt ?_
          conv => whnf
          refine stuckStep (quo_at (k := .i32) (by rfl) (by rfl) hb) ?_
          conv => whnf
          refine stuckT (by kernel_rfl) ?_
          conv => whnf
          refine ⟨_, _, hp, ?_⟩
          conv => whnf
          refine stuckStep (append_own (L := x :: L) (c := i) (xs := [[.int .i64 q1, .bool q2, .int .i64 q3, .str q4, .int .i64 q5, .int .i64 q6, .int .i64 q7]]) (by rfl) hlen (by rfl) (by rfl) (by simp; omega)) ?_
          conv => whnf
          refine stuckT (by kernel_rfl) ?_
          conv => whnf
          exact hgo _ rfl
    exact key a 0 _ (by omega) rfl
end Go.Ab.Td

/- Cells of drafts, field by field: dictionaries. Under: nothing. -/
namespace Go.Ab.Td
open Go Go.Ab
attribute [local irreducible] compat

set_option maxHeartbeats 4000000 in
set_option maxRecDepth 100000 in
theorem cellV3 (F : List PV → Prop) (Ok : Nat → List PV → Own → PV → Prop) (rows : List (List PV)) (K A B N : Int) (S : List UInt8) (hA : 0 ≤ A ∧ A < 256) (hB : 0 ≤ B ∧ B < 256) (hN : -2147483648 ≤ N ∧ N ≤ 2147483647)
    (hO : ∀ K' A' B' N' S', 0 ≤ A' ∧ A' < 256 → 0 ≤ B' ∧ B' < 256 → -2147483648 ≤ N' ∧ N' ≤ 2147483647 → ∃ r, (F r ∧ ObjR r) ∧ Ok n_ref11_Word_Obj [wordV K' A' B' N' S', .sl 7 rows] [] (.agg r))
    (h65 : ∀ n, Ok n_ref11_dict [.int .i64 n] [] (dictV n)) (h66 : ∀ s, Ok n_ref11_name [.str s] [] (nameV s))
    (h0 : (K.tmod 5 == 0) = false) (h1 : (K.tmod 5 == 1) = false) (h2 : (K.tmod 5 == 2) = false) (h3 : (K.tmod 5 == 3) = true) : ∃ r, CellV F r ∧ fnW wG Ok noX noT noT 0 c_ref11_Word_Cell [wordV K A B N S, .sl 7 rows] (.agg r) := by
  have hm : 0 ≤ (if (40 : Int) < S.length then (40 : Int) else (S.length : Int)) ∧ (if (40 : Int) < S.length then (40 : Int) else (S.length : Int)) ≤ S.length := by split <;> omega
  obtain ⟨f, hf⟩ := Classical.axiomOfChoice (fun i : Nat => hO _ _ N [] (u8_range (A + IntKind.u8.wrap (i : Int))) hB hN (K' := IntKind.u8.wrap (B + IntKind.u8.wrap (IntKind.i64.wrap (3 * (i : Int))))))
  obtain ⟨a, ha⟩ : ∃ a : Nat, A.tmod 6 = a := ⟨(A.tmod 6).toNat, by have := Int.tmod_nonneg 6 hA.1; omega⟩
  have ha6 : a < 6 := by have := Int.tmod_lt_of_pos A (show (0 : Int) < 6 by decide); omega
  have hw : IntKind.i64.wrap (A.tmod 6) = a := by rw [ha, wrap_small (by omega) (by omega)]
  obtain ⟨b, hb⟩ : ∃ b : Nat, B.tmod 4 = b := ⟨(B.tmod 4).toNat, by have := Int.tmod_nonneg 4 hB.1; omega⟩
  have hb4 : b < 4 := by have := Int.tmod_lt_of_pos B (show (0 : Int) < 4 by decide); omega
  have hwb : IntKind.i64.wrap (B.tmod 4) = b := by rw [hb, wrap_small (by omega) (by omega)]
  let n := min a b
  let g : Nat → List PV := fun i => nameR (wordAt (i : Int))
  let vs : List (List PV) := (List.range n).map f
  let ks : List (List PV) := (List.range n).map g
  refine ⟨[.int .i64 3, .str [], .emp 7, match vs with | [] => .emp 7 | _ :: _ => .sl 7 ((ks.drop 0).take n), match vs with | [] => .emp 7 | x :: L => .sl 7 (((x :: L).drop 0).take n), .int .i64 (IntKind.i64.wrap (A.tmod 6)), .int .i64 0], ?_, ?_⟩
  · have hit : ∀ x ∈ vs, F x := by
      intro x hx
      obtain ⟨i, _, rfl⟩ := List.mem_map.1 hx
      exact (hf i).1.1
    have hil : vs.length = n := by simp [vs]
    have hkl : ks.length = n := by simp [ks]
    have hn : n ≤ a := by simp only [n]; omega
    refine .inr (.inr (.inl ⟨_, _, n, a, hn, by omega, ?_, ?_, by rw [hw]⟩))
    · revert hit hil
      generalize vs = L
      intro hit hil
      cases L with
      | nil => exact .inl ⟨rfl, by simpa using hil.symm⟩
      | cons x L =>
        refine .inr ?_
        show PV.sl 7 ((ks.drop 0).take n) = PV.sl 7 ks
        rw [List.drop_zero, ← hkl, List.take_length]
    · revert hit hil
      generalize vs = L
      intro hit hil
      cases L with
      | nil => exact .inl ⟨rfl, by simpa using hil.symm⟩
      | cons x L =>
        refine .inr ⟨_, rfl, ?_, ?_⟩
        · simp only [List.drop_zero, List.length_take]; omega
        · intro y hy
          exact hit y (List.mem_of_mem_take (by simpa using hy))
  · have h65' := h65 (IntKind.i64.wrap (A.tmod 6))
    conv => whnf
    refine stuckStep (sslice_at (s := S) (h := if (40 : Int) < S.length then (40 : Int) else (S.length : Int)) (by rfl) (by rfl) hm.1 hm.2) ?_
    conv => whnf
    refine stuckF h0 ?_
    conv => whnf
    refine stuckF h1 ?_
    conv => whnf
    refine stuckF h2 ?_
    conv => whnf
    refine stuckT h3 ?_
    conv => whnf
    refine ⟨_, _, h65', ?_⟩
    conv => whnf
    intro X hX _
    have key : ∀ (m i : Nat) (s : St), i + m = n → norm [1, 2, 4, 9, 10] s = dSt rows K A B N S (IntKind.i64.wrap (A.tmod 6)) (i : Int) i ((List.range i).map g) ((List.range i).map f) → X s := by
      intro m
      induction m with
      | zero =>
        intro i s hi hs
        refine loop_norm hX s ?_
        rw [hs]
        have hia : i = n := by omega
        subst hia
        have hlt2 : decide ((n : Int) < IntKind.i64.wrap (B.tmod 4)) = true → decide ((n : Int) < IntKind.i64.wrap (A.tmod 6)) = false := by rw [hw, hwb]; simp only [n, decide_eq_true_eq, decide_eq_false_iff_not]; omega
        show aw wG Ok _ true _ _ (dSt rows K A B N S (IntKind.i64.wrap (A.tmod 6)) (n : Int) n ks vs)
        generalize IntKind.i64.wrap (A.tmod 6) = am at hlt2 ⊢
        generalize vs = L
        cases hlt : decide ((n : Int) < IntKind.i64.wrap (B.tmod 4)) with
        | true =>
          have hlt3 := hlt2 hlt
          cases L with
          | nil =>
            conv => whnf
            rw [hlt]
            conv => whnf
            refine stuckF hlt3 ?_
            conv => whnf
          | cons x L =>
            conv => whnf
            rw [hlt]
            conv => whnf
            refine stuckF hlt3 ?_
            conv => whnf
        | false =>
          cases L with
          | nil =>
            conv => whnf
            rw [hlt]
            conv => whnf
          | cons x L =>
            conv => whnf
            rw [hlt]
            conv => whnf
      | succ m ih =>
        intro i s hi hs
        refine loop_norm hX s ?_
        rw [hs]
        have hin : i < a ∧ i < b := by simp only [n] at hi; omega
        obtain ⟨⟨_, q1, q2, q3, q4, q5, q6, q7, hqn, hfi⟩, hp⟩ := hf i
        have hltA : decide ((i : Int) < IntKind.i64.wrap (A.tmod 6)) = true := by rw [hw]; simp; omega
        have hltB : decide ((i : Int) < IntKind.i64.wrap (B.tmod 4)) = true := by rw [hwb]; simp; omega
        have hnextf : (List.range (i + 1)).map f = (List.range i).map f ++ [f i] := by simp [List.range_succ]
        have hnextg : (List.range (i + 1)).map g = (List.range i).map g ++ [nameR (wordAt (i : Int))] := by simp [List.range_succ, g]
        have hw1 : IntKind.i64.wrap ((i : Int) + 1) = ((i + 1 : Nat) : Int) := by rw [wrap_small (by omega) (by omega)]; omega
        have hgo : ∀ s', norm [1, 2, 4, 9, 10] s' = dSt rows K A B N S (IntKind.i64.wrap (A.tmod 6)) (IntKind.i64.wrap ((i : Int) + 1)) (i + 1) ((List.range i).map g ++ [nameR (wordAt (i : Int))]) ((List.range i).map f ++ [f i]) → X s' := fun s' h => ih (i + 1) s' (by omega) (by rw [h, hw1, hnextf, hnextg])
        have hlen : ((List.range i).map f).length = i := by simp
        have hlenk : ((List.range i).map g).length = i := by simp
        obtain ⟨wl, hwl⟩ := wordAt_eq (i := (i : Int)) (by omega) (by omega)
        clear hnextf hnextg ih hs
        rw [hfi] at hgo hp
        generalize IntKind.i64.wrap (A.tmod 6) = am at hltA hgo ⊢
        generalize (List.range i).map f = L at hgo hlen ⊢
        generalize (List.range i).map g = Lk at hgo hlenk ⊢
        cases L with
        | nil =>
          simp only [List.length_nil] at hlen
          subst hlen
          obtain rfl := List.length_eq_zero_iff.1 hlenk
          conv => whnf
          rw [hltB]
          conv => whnf
          refine stuckT hltA ?_
          conv => whnf
          refine ⟨_, _, h66 _, ?_⟩
          conv => whnf
          refine stuckT (by kernel_rfl) ?_
          conv => whnf
          refine ⟨_, _, hp, ?_⟩
          conv => whnf
          refine stuckT (by kernel_rfl) ?_
          conv => whnf
          exact hgo _ rfl
        | cons x L =>
          conv => whnf
          rw [hltB]
          conv => whnf
          refine stuckT hltA ?_
          conv => whnf
          refine stuckStep (paddr_ref (cs := wordsV) (by rfl) (by rfl) (by omega) (by omega)) ?_
          conv => whnf
          refine stuckStep (load_ref (by rfl) hwl) ?_
          conv => whnf
          refine ⟨_, _, h66 _, ?_⟩
          conv => whnf
          refine stuckStep (append_ownS (L := Lk) (c := i) (xs := [nameR (wordAt (i : Int))]) (by rfl) hlenk (by rfl) (by rfl) (by simp; omega)) ?_
          conv => whnf
          refine stuckT (by kernel_rfl) ?_
          conv => whnf
          refine ⟨_, _, hp, ?_⟩
          conv => whnf
          refine stuckStep (append_ownS (L := x :: L) (c := i) (xs := [[.int .i64 q1, .bool q2, .int .i64 q3, .str q4, .int .i64 q5, .int .i64 q6, .int .i64 q7]]) (by rfl) hlen (by rfl) (by rfl) (by simp; omega)) ?_
          conv => whnf
          refine stuckT (by kernel_rfl) ?_
          conv => whnf
          exact hgo _ rfl
    exact key n 0 _ (by omega) rfl
end Go.Ab.Td

/- Heaps of drafts, with an invariant. Under: nothing. -/
namespace Go.Ab.Td
open Go Go.Ab
theorem cell_runV (F : List PV → Prop) (Ok : Nat → List PV → Own → PV → Prop) (rows : List (List PV)) (K A B N : Int) (S : List UInt8) (hA : 0 ≤ A ∧ A < 256) (hB : 0 ≤ B ∧ B < 256) (hN : -2147483648 ≤ N ∧ N ≤ 2147483647)
    (hO : ∀ K' A' B' N' S', 0 ≤ A' ∧ A' < 256 → 0 ≤ B' ∧ B' < 256 → -2147483648 ≤ N' ∧ N' ≤ 2147483647 → ∃ r, (F r ∧ ObjR r) ∧ Ok n_ref11_Word_Obj [wordV K' A' B' N' S', .sl 7 rows] [] (.agg r))
    (h65 : ∀ n, Ok n_ref11_dict [.int .i64 n] [] (dictV n)) (h66 : ∀ s, Ok n_ref11_name [.str s] [] (nameV s)) : ∃ r, CellV F r ∧ fnW wG Ok noX noT noT 0 c_ref11_Word_Cell [wordV K A B N S, .sl 7 rows] (.agg r) := by
  cases h0 : (K.tmod 5 == 0) with
  | true => exact cellV0 F Ok rows K A B N S hA hB hO h65 h66 h0
  | false =>
    cases h1 : (K.tmod 5 == 1) with
    | true => exact cellV1 F Ok rows K A B N S hA hB hO h65 h66 h0 h1
    | false =>
      cases h2 : (K.tmod 5 == 2) with
      | true => exact cellV2 F Ok rows K A B N S hA hO h0 h1 h2
      | false =>
        cases h3 : (K.tmod 5 == 3) with
        | true => exact cellV3 F Ok rows K A B N S hA hB hN hO h65 h66 h0 h1 h2 h3
        | false => exact cellV4 F Ok rows K A B N S hA hB hO h65 h66 h0 h1 h2 h3
/-- A word's row. -/
def WordN (r : List PV) : Prop := ∃ K A B N S, r = [.int .u8 K, .int .u8 A, .int .u8 B, .int .i32 N, .str S] ∧ (0 ≤ A ∧ A < 256) ∧ (0 ≤ B ∧ B < 256) ∧ (-2147483648 ≤ N ∧ N ≤ 2147483647)
theorem WordN.r {r : List PV} (h : WordN r) : WordR r := by
  obtain ⟨K, A, B, N, S, e, a, b, _⟩ := h
  exact ⟨K, A, B, N, S, e, a, b⟩
attribute [local irreducible] compat

set_option maxHeartbeats 4000000 in
set_option maxRecDepth 100000 in
theorem heap_runV (Inv : List (List PV) → Prop) (h0 : Inv first10) (Ok : Nat → List PV → Own → PV → Prop) (cells ops dicts : List (List PV)) (hc : ∀ r ∈ cells, WordN r)
    (h53 : Ok n_ref11_First [.sl 1 [[.str sAdd], [.str sPop]]] [(0, 0)] (.sl 7 first10))
    (h54 : ∀ K A B N S H, 0 ≤ A ∧ A < 256 → 0 ≤ B ∧ B < 256 → -2147483648 ≤ N ∧ N ≤ 2147483647 → HeapR H → H.length < 20 → Inv H → ∃ r, (CellR r ∧ Inv (H ++ [r])) ∧ Ok n_ref11_Word_Cell [wordV K A B N S, .sl 7 H] [] (.agg r)) :
    ∃ H, Inv H ∧ fnW wG Ok noX noT noT 0 c_ref11_Draft_Heap [.agg [.sl 5 cells, .sl 5 ops, .sl 1 dicts]] (.sl 7 H) := by
  let n := min cells.length 10
  have hnx : ∀ p : Nat × List (List PV), ∃ r : List PV, ∀ row, cells[p.1]? = some row → (HeapR p.2 ∧ p.2.length < 20 ∧ Inv p.2) → (CellR r ∧ Inv (p.2 ++ [r])) ∧ Ok n_ref11_Word_Cell [.agg row, .sl 7 p.2] [] (.agg r) := by
    intro p
    by_cases hh : HeapR p.2 ∧ p.2.length < 20 ∧ Inv p.2
    · cases hr : cells[p.1]? with
      | none => exact ⟨[], fun _ h => by cases h⟩
      | some row =>
        obtain ⟨K, A, B, N, S, rfl, hA, hB, hN⟩ := hc row (List.mem_of_getElem? hr)
        obtain ⟨r, h1, h2⟩ := h54 K A B N S p.2 hA hB hN hh.1 hh.2.1 hh.2.2
        exact ⟨r, fun _ e _ => by cases e; exact ⟨h1, h2⟩⟩
    · exact ⟨[], fun _ _ h => absurd h hh⟩
  obtain ⟨nxt, hnxt⟩ := Classical.axiomOfChoice hnx
  let hs : Nat → List (List PV) := fun i => Nat.rec first10 (fun i h => h ++ [nxt (i, h)]) i
  have hsS : ∀ i, hs (i + 1) = hs i ++ [nxt (i, hs i)] := fun i => rfl
  have hok : ∀ i, i ≤ n → (HeapR (hs i) ∧ Inv (hs i)) ∧ (hs i).length = 10 + i := by
    intro i
    induction i with
    | zero => intro _; exact ⟨⟨⟨[], rfl, by simp, first10_ok⟩, h0⟩, rfl⟩
    | succ i ih =>
      intro hi
      obtain ⟨⟨⟨more, e, hm, hall⟩, hI⟩, hl⟩ := ih (by omega)
      obtain ⟨row, hrow⟩ : ∃ row, cells[i]? = some row := ⟨_, List.getElem?_eq_getElem (by simp only [n] at hi; omega)⟩
      have hlt20 : (hs i).length < 20 := by simp only [n] at hi; omega
      obtain ⟨h1, h1I⟩ := (hnxt (i, hs i) row hrow ⟨⟨more, e, hm, hall⟩, hlt20, hI⟩).1
      rw [hsS]
      refine ⟨⟨⟨more ++ [nxt (i, hs i)], by rw [← List.append_assoc, ← e], ?_, ?_⟩, h1I⟩, by simp; omega⟩
      · have : (hs i).length = 10 + more.length := by rw [e, List.length_append]; rfl
        simp only [n] at hi
        simp; omega
      · intro r hr
        rcases List.mem_append.1 hr with h | h
        · exact hall r h
        · simp only [List.mem_singleton] at h; subst h; exact h1
  refine ⟨hs n, (hok n (Nat.le_refl _)).1.2, ?_⟩
  conv => whnf
  refine ⟨_, _, h53, ?_⟩
  conv => whnf
  intro X hX _
  have key : ∀ (m i : Nat) (s : St) (sl : Bool), i + m = n → norm [1, 3, 4] s = hSt cells ops dicts (i : Int) (10 + i) (hs i) sl → X s := by
    intro m
    induction m with
    | zero =>
      intro i s sl hi hs'
      refine loop_norm hX s ?_
      rw [hs']
      obtain rfl : i = n := by omega
      have hl := (hok n (Nat.le_refl _)).2
      generalize hs n = H at hl ⊢
      cases hlt : decide ((n : Int) < (cells.length : Int)) with
      | true =>
        have h10 : decide ((n : Int) < 10) = false := by simp only [n, decide_eq_true_eq, decide_eq_false_iff_not] at hlt ⊢; omega
        conv => whnf
        rw [hlt]
        conv => whnf
        refine stuckF h10 ?_
        conv => whnf
        rw [List.drop_zero, ← hl, List.take_length]
      | false =>
        conv => whnf
        rw [hlt]
        conv => whnf
        rw [List.drop_zero, ← hl, List.take_length]
    | succ m ih =>
      intro i s sl hi hs'
      refine loop_norm hX s ?_
      rw [hs']
      have hin : i < cells.length ∧ i < 10 := by simp only [n] at hi; omega
      have hlt : decide ((i : Int) < (cells.length : Int)) = true := by simp; omega
      have h10 : decide ((i : Int) < 10) = true := by simp; omega
      obtain ⟨row, hrow⟩ : ∃ row, cells[i]? = some row := ⟨_, List.getElem?_eq_getElem (by omega)⟩
      have hw : IntKind.i64.wrap ((i : Int) + 1) = ((i + 1 : Nat) : Int) := by rw [wrap_small (by omega) (by omega)]; omega
      obtain ⟨hH, hl⟩ := hok i (by omega)
      have hlt20 : (hs i).length < 20 := by rw [hl]; omega
      obtain ⟨⟨h1, _⟩, h2⟩ := hnxt (i, hs i) row hrow ⟨hH.1, hlt20, hH.2⟩
      have hgo : ∀ s', norm [1, 3, 4] s' = hSt cells ops dicts (IntKind.i64.wrap ((i : Int) + 1)) (10 + i + 1) (hs i ++ [nxt (i, hs i)]) true → X s' := fun s' h => ih (i + 1) s' true (by omega) (by rw [h, hw, hsS]; rfl)
      obtain ⟨K, A, B, N, S, rfl, hA, hB, hN⟩ := hc row (List.mem_of_getElem? hrow)
      clear hs' ih hok
      simp only [] at h2
      generalize nxt (i, hs i) = r at h1 h2 hgo
      generalize hs i = H at h1 h2 hgo hl ⊢
      have hpub : H = (H.drop 0).take (10 + i) := by rw [List.drop_zero, ← hl, List.take_length]
      have h2' : Ok n_ref11_Word_Cell [wordV K A B N S, .sl 7 ((H.drop 0).take (10 + i))] [] (.agg r) := by rw [← hpub]; exact h2
      obtain ⟨q1, q2, q3, q4, q5, q6, q7, m1, m2, m3, rfl, _, c3, c4, c5⟩ := h1
      have hrow' : cells[(i : Int).toNat]? = some [.int .u8 K, .int .u8 A, .int .u8 B, .int .i32 N, .str S] := by simpa using hrow
      rcases c3 with ⟨rfl, _⟩ | ⟨r3, rfl, _⟩ <;> rcases c4 with ⟨rfl, _⟩ | ⟨r4, rfl, _⟩ <;> rcases c5 with ⟨rfl, _⟩ | ⟨r5, rfl, _⟩
      all_goals
        conv => whnf
        rw [hlt]
        conv => whnf
        refine stuckT h10 ?_
        conv => whnf
        refine stuckStep (iaddr_at (rows := cells) (j := (i : Int)) (by rfl) (by rfl) (by omega) hrow') ?_
        conv => whnf
        refine ⟨_, _, h2', ?_⟩
        conv => whnf
        refine stuckStep (append_ownS (L := H) (c := 10 + i) (sl := true) (xs := [[.int .i64 q1, .str q2, _, _, _, .int .i64 q6, .int .i64 q7]]) (by rfl) hl (by rfl) (by rfl) (by simp; omega)) ?_
        conv => whnf
        exact hgo _ rfl
  exact key n 0 _ false (by omega) rfl
end Go.Ab.Td
