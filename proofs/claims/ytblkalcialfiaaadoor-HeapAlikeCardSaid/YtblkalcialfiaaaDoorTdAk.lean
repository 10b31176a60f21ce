/- Joined texts: TdAl, TdAk. Under: nothing. -/
import Derived.Test.YtblkalcialfiaaaDoorTdRK
/- Equality is an equivalence. Under: nothing. -/
namespace Go.Ab.Td
open Go Go.Ab
theorem eqv_refl {h : List Cl} {a : Ob} (hf : fits h a) : eqv h a a := by
  unfold eqv
  grind
theorem eqv_symm {h : List Cl} {a b : Ob} : eqv h a b = eqv h b a := by
  unfold eqv
  grind
theorem eqv_exec {h : List Cl} {a : Ob} (e : Bool) (hf : fits h a) (hf2 : fits h { a with exec := e }) : eqv h a { a with exec := e } := by
  have h1 : ({ a with exec := e } : Ob).isNum ↔ a.isNum := Iff.rfl
  have h2 : ({ a with exec := e } : Ob).val = a.val := rfl
  have h3 : oct h { a with exec := e } = oct h a := rfl
  unfold eqv
  rw [if_neg (by simp [hf, hf2]), h2, h3]
  grind
theorem eqv_trans {h : List Cl} {a b c : Ob} (h1 : eqv h a b) (h2 : eqv h b c) : eqv h a c := by
  have hk : ∀ x y : Ob, ({ x with exec := false } : Ob) = { y with exec := false } → (x.isNum ↔ y.isNum) ∧ oct h x = oct h y := by
    intro x y e
    cases x; cases y
    simp only [Ob.mk.injEq] at e
    obtain ⟨rfl, _, rfl, rfl, rfl, rfl, rfl⟩ := e
    exact ⟨Iff.rfl, rfl⟩
  have k1 := hk a b
  have k2 := hk b c
  have hno : ∀ x : Ob, x.isNum → oct h x = none := by
    intro x hx
    unfold oct Ob.isNum at *
    grind
  have n1 := hno a
  have n2 := hno b
  have n3 := hno c
  unfold eqv at *
  grind
end Go.Ab.Td

/- Equality agrees with equality of keys. Under: nothing. -/
namespace Go.Ab.Td
open Go Go.Ab
/-- The fields that a valid number uses. -/
theorem right_numO {o : Ob} (hr : o.right) (hk : o.kind = 3 ∨ o.kind = 4) : o = ⟨o.kind, o.exec, o.n, [], 0, 0, 0⟩ ∧ -2147483648 ≤ o.n ∧ o.n ≤ 2147483648 := by
  obtain ⟨a, b, c, d, e, f⟩ := right_num hr hk
  have e2 : o.name = [] := List.length_eq_zero_iff.1 (by omega)
  refine ⟨?_, a, b⟩
  cases o; simp_all
theorem right_name {o : Ob} (hr : o.right) (hk : o.kind = 5) : o = ⟨5, o.exec, 0, o.name, 0, 0, 0⟩ := by
  obtain ⟨-, ⟨b1, b2, b3, b4, b5⟩, -⟩ := hr
  have e1 : o.n = 0 := by omega
  have e3 : o.ref = 0 := by omega
  have e4 : o.off = 0 := by omega
  have e5 : o.len = 0 := by omega
  cases o; simp_all
theorem exec_same {h : List Cl} {x y : Ob} (e : ({ x with exec := false } : Ob) = { y with exec := false }) : (x.isNum ↔ y.isNum) ∧ oct h x = oct h y ∧ x.kind = y.kind := by
  cases x; cases y
  simp only [Ob.mk.injEq] at e
  obtain ⟨rfl, _, rfl, rfl, rfl, rfl, rfl⟩ := e
  exact ⟨Iff.rfl, rfl, rfl⟩
theorem key_cls {h : List Cl} {a : Ob} (fa : fits h a) (ka : (hKey h a).2 = 0) : (a.isNum ∧ oct h a = none ∧ (hKey h a).1 = a.key) ∨ (¬ a.isNum ∧ ∃ s, oct h a = some s ∧ (hKey h a).1 = nmO s) ∨
    (¬ a.isNum ∧ oct h a = none ∧ (hKey h a).1 = { a with exec := false } ∧ a.kind ≠ 5) := by
  unfold hKey at *
  rw [if_neg (Classical.not_not.2 fa)] at *
  by_cases h6 : a.kind = 6
  · rw [if_pos h6] at *
    by_cases hl : 100 < (sub h a).length
    · rw [if_pos hl] at ka; cases ka
    · rw [if_neg hl]
      exact .inr (.inl ⟨by simp [Ob.isNum, h6], sub h a, by simp [oct, h6], rfl⟩)
  · rw [if_neg h6] at *
    by_cases h0 : a.kind = 0
    · rw [if_pos h0] at ka; cases ka
    · rw [if_neg h0]
      by_cases hn : a.kind = 3 ∨ a.kind = 4
      · exact .inl ⟨hn, by unfold oct; rw [if_neg (by omega), if_neg h6], rfl⟩
      · have hk : a.key = { a with exec := false } := by unfold Ob.key; rw [if_neg (by omega)]
        by_cases h5 : a.kind = 5
        · refine .inr (.inl ⟨hn, a.name, by simp [oct, h5], ?_⟩)
          show a.key = _
          rw [hk, right_name fa.1 h5]; rfl
        · exact .inr (.inr ⟨hn, by unfold oct; rw [if_neg h5, if_neg h6], hk, h5⟩)
theorem key_num_kind {a : Ob} (hn : a.isNum) : a.key.isNum := by
  unfold Ob.key
  split
  · exact .inl rfl
  · exact hn
theorem tdm {n : Int} (h : n.tmod 65536 = 0) : n.tdiv 65536 * 65536 = n := by
  have := Int.mul_tdiv_add_tmod n 65536
  omega
theorem key_num {a b : Ob} (ra : a.right) (rb : b.right) (ha : a.isNum) (hb : b.isNum) : a.key = b.key ↔ a.val = b.val := by
  obtain ⟨ea, la, ua⟩ := right_numO ra ha
  obtain ⟨eb, lb, ub⟩ := right_numO rb hb
  have v : ∀ o : Ob, -2147483648 ≤ o.n → o.n ≤ 2147483648 → o.isNum → o.val = if o.kind = 3 then o.n * 65536 else o.n := by
    intro o h1 h2 h3
    unfold Ob.val
    split
    · exact wrap_small (by omega) (by omega)
    · rfl
  have k : ∀ o : Ob, o = ⟨o.kind, o.exec, o.n, [], 0, 0, 0⟩ → o.isNum → (o.kind = 3 ∧ o.key = ⟨3, false, o.n, [], 0, 0, 0⟩) ∨ (o.kind = 4 ∧ o.n.tmod 65536 = 0 ∧ o.key = ⟨3, false, o.n.tdiv 65536, [], 0, 0, 0⟩) ∨ (o.kind = 4 ∧ o.n.tmod 65536 ≠ 0 ∧ o.key = ⟨4, false, o.n, [], 0, 0, 0⟩) := by
    intro o he hn
    rcases hn with hn | hn
    · refine .inl ⟨hn, ?_⟩
      unfold Ob.key
      rw [if_neg (by omega)]
      rw [he, hn]
    · by_cases hm : o.n.tmod 65536 = 0
      · exact .inr (.inl ⟨hn, hm, by unfold Ob.key; rw [if_pos ⟨hn, hm⟩]⟩)
      · refine .inr (.inr ⟨hn, hm, ?_⟩)
        unfold Ob.key
        rw [if_neg (by omega)]
        rw [he, hn]
  rw [v a la ua ha, v b lb ub hb]
  rcases k a ea ha with ⟨a1, a2⟩ | ⟨a1, am, a2⟩ | ⟨a1, am, a2⟩ <;> rcases k b eb hb with ⟨b1, b2⟩ | ⟨b1, bm, b2⟩ | ⟨b1, bm, b2⟩ <;> rw [a2, b2, a1, b1] <;> simp only [Ob.mk.injEq, and_true, true_and]
  · constructor <;> intro h <;> simp at h ⊢ <;> omega
  · have := tdm bm
    constructor <;> intro h <;> simp at h ⊢ <;> omega
  · have := Int.mul_tdiv_add_tmod b.n 65536
    constructor
    · intro h; simp at h
    · intro h
      simp at h
      exfalso
      apply bm
      rw [← h]; exact Int.mul_tmod_left _ _
  · have := tdm am
    constructor <;> intro h <;> simp at h ⊢ <;> omega
  · have := tdm am
    have := tdm bm
    constructor <;> intro h <;> simp at h ⊢ <;> omega
  · constructor
    · intro h; simp at h
    · intro h
      simp at h
      rw [h] at am
      exact absurd am bm
  · constructor
    · intro h; simp at h
    · intro h
      simp at h
      exfalso
      apply am
      rw [h]; exact Int.mul_tmod_left _ _
  · constructor
    · intro h; simp at h
    · intro h
      simp at h
      rw [h] at am
      exact absurd bm am
  · constructor <;> intro h <;> simp at h ⊢ <;> omega
theorem key_eqv {h : List Cl} {a b : Ob} (ha : fits h a) (hb : fits h b) (ka : (hKey h a).2 = 0) (kb : (hKey h b).2 = 0) : ((hKey h a).1 = (hKey h b).1) ↔ eqv h a b := by
  unfold eqv
  rw [if_neg (by rintro (h | h); exact h ha; exact h hb)]
  have hs := @exec_same h a b
  rcases key_cls ha ka with ⟨a1, a2, a3⟩ | ⟨a1, s, a2, a3⟩ | ⟨a1, a2, a3, a4⟩ <;> rcases key_cls hb kb with ⟨b1, b2, b3⟩ | ⟨b1, t, b2, b3⟩ | ⟨b1, b2, b3, b4⟩ <;> rw [a3, b3]
  · rw [if_pos ⟨a1, b1⟩]; exact key_num ha.1 hb.1 a1 b1
  · rw [if_neg (fun h => b1 h.2), if_neg (by rw [a2]; simp)]
    constructor
    · intro e
      have := key_num_kind a1
      rw [e] at this
      simp [Ob.isNum, nmO] at this
    · intro e; exact absurd ((hs e).1.1 a1) b1
  · rw [if_neg (fun h => b1 h.2), if_neg (by rw [a2]; simp)]
    constructor
    · intro e
      have := key_num_kind a1
      rw [e] at this
      exact absurd this b1
    · intro e; exact absurd ((hs e).1.1 a1) b1
  · rw [if_neg (fun h => a1 h.1), if_neg (by rw [b2]; simp)]
    constructor
    · intro e
      have := key_num_kind b1
      rw [← e] at this
      simp [Ob.isNum, nmO] at this
    · intro e; exact absurd ((hs e).1.2 b1) a1
  · rw [if_neg (fun h => a1 h.1), if_pos (by rw [a2, b2]; simp), a2, b2]
    simp [nmO]
  · rw [if_neg (fun h => a1 h.1), if_neg (by rw [b2]; simp)]
    constructor
    · intro e
      exact absurd (congrArg Ob.kind e).symm b4
    · intro e
      have := (hs e).2.1
      rw [a2, b2] at this
      cases this
  · rw [if_neg (fun h => a1 h.1), if_neg (by rw [b2]; simp [a2])]
    constructor
    · intro e
      have := key_num_kind b1
      rw [← e] at this
      exact absurd this a1
    · intro e; exact absurd ((hs e).1.2 b1) a1
  · rw [if_neg (fun h => a1 h.1), if_neg (by rw [a2]; simp)]
    constructor
    · intro e
      exact absurd (congrArg Ob.kind e) a4
    · intro e
      have := (hs e).2.1
      rw [a2, b2] at this
      cases this
  · rw [if_neg (fun h => a1 h.1), if_neg (by rw [a2]; simp)]
end Go.Ab.Td
