/- Heaps in which resources are defined one by one. Under: nothing. -/
import Derived.Test.YtngmifmcohmfmaaDoorTdFo
import Derived.Test.YtngmifmcohmfmaaDoorTdAk
import Derived.Test.YtngmifmcohmfmaaDoorTdSu
import Derived.Test.YtngmifmcohmfmaaDoorTdRK
namespace Go.Ab.Td
open Go Go.Ab
structure HI (n : Nat) (h : List Cl) : Prop where
  len : 10 ≤ h.length ∧ h.length ≤ 20
  cat : h[4]? = some catT
  dics : ∀ j : Nat, 5 ≤ j → j ≤ 9 → ∃ c, h[j]? = some c ∧ c.kind = 3
  sz : ∀ c ∈ h, c.keys.length ≤ n ∧ c.vals.length ≤ n ∧ c.items.length ≤ 1000 ∧ c.bytes.length ≤ 4000
  shape : ∀ c ∈ h, (c.kind = 1 → c.items = [] ∧ c.bytes.length ≤ 1000) ∧ (c.kind = 2 → c.bytes = [] ∧ c.items.length ≤ 1000)
  vals : ∀ c ∈ h, ∀ o ∈ c.vals, o.n < 9223372036854775808
theorem HI.small {n : Nat} {h : List Cl} (t : HI n h) (hn : n ≤ 1000000) : small h :=
  ⟨by have := t.len; omega, fun c hc => by obtain ⟨a, b, c, d⟩ := t.sz c hc; exact ⟨by omega, by omega, by omega, by omega⟩⟩
theorem slR_len {l : List Ob} {m : Nat} (h : SlR (.sl 7 (l.map encO)) m) : l.length ≤ 1000 := by
  rcases h with ⟨h, -⟩ | ⟨rr, h, hl, hm, -⟩
  · cases h
  · simp only [PV.sl.injEq, true_and] at h
    subst h
    simp only [List.length_map] at hl
    omega
theorem clOk.lens {c : Cl} (h : clOk c) : c.keys.length ≤ 1000 ∧ c.vals.length ≤ 1000 ∧ c.items.length ≤ 1000 ∧ c.bytes.length ≤ 4000 := by
  obtain ⟨-, -, k, b, q1, q2, q3, mx, a, m1, m2, m3, he, hb, h1, h2, h3⟩ := h
  simp only [encC, List.cons.injEq, PV.int.injEq, PV.str.injEq, true_and] at he
  obtain ⟨-, e2, e3, e4, e5, -⟩ := he
  subst e2 e3 e4 e5
  exact ⟨slR_len h2, slR_len h3, slR_len h1, hb.1⟩
theorem HeapT.hi {h : List Cl} (t : HeapT h) : HI 1000 h := by
  have hok := t.ok
  have hl := t.len
  obtain ⟨h4, h5, h10⟩ := heap_at t
  exact ⟨⟨h10, hl⟩, h4, fun j a b => ⟨_, h5 j a b, rfl⟩, fun c hc => (hok c hc).lens, fun c hc => (hok c hc).shape, fun c hc => (hok c hc).2.1⟩
theorem put_facts {c c' : Cl} {k v : Ob} (hp : putKV c k v = some c') : c'.kind = c.kind ∧ c'.bytes = c.bytes ∧ c'.items = c.items ∧ c'.keys.length ≤ c.keys.length + 1 ∧ c'.vals.length ≤ c.vals.length + 1 ∧ ∀ o ∈ c'.vals, o ∈ c.vals ∨ o = v := by
  unfold putKV at hp
  split at hp
  · cases hp
    refine ⟨rfl, rfl, rfl, by dsimp only; omega, by dsimp only; rw [List.length_set]; omega, fun o ho => ?_⟩
    exact List.mem_or_eq_of_mem_set ho
  · split at hp
    · cases hp
    · cases hp
      refine ⟨rfl, rfl, rfl, by dsimp only; rw [List.length_append]; simp, by dsimp only; rw [List.length_append]; simp, fun o ho => ?_⟩
      dsimp only at ho
      rcases List.mem_append.1 ho with h | h
      · exact .inl h
      · exact .inr (by simpa using h)
theorem HI.put {n : Nat} {h : List Cl} (t : HI n h) {j : Nat} (h5 : 5 ≤ j) (h9 : j ≤ 9) {c c' : Cl} (hc : h[j]? = some c) {k v : Ob} (hp : putKV c k v = some c') (hv : v.n < 9223372036854775808) : HI (n + 1) (h.set j c') := by
  obtain ⟨p1, p2, p3, p4, p5, p6⟩ := put_facts hp
  have hm := List.mem_of_getElem? hc
  have hck : c.kind = 3 := by
    obtain ⟨d, hd, hk⟩ := t.dics j h5 h9
    rw [hc] at hd; cases hd; exact hk
  have mem : ∀ x ∈ h.set j c', x ∈ h ∨ x = c' := fun x hx => List.mem_or_eq_of_mem_set hx
  refine ⟨by rw [List.length_set]; exact t.len, ?_, fun i a b => ?_, fun x hx => ?_, fun x hx => ?_, fun x hx => ?_⟩
  · rw [List.getElem?_set_ne (by omega)]; exact t.cat
  · by_cases hij : j = i
    · subst hij
      rw [List.getElem?_set_self (by have := (List.getElem?_eq_some_iff.1 hc).1; exact this)]
      exact ⟨c', rfl, by rw [p1]; exact hck⟩
    · rw [List.getElem?_set_ne hij]; exact t.dics i a b
  · rcases mem x hx with hx | rfl
    · obtain ⟨a, b, c, d⟩ := t.sz x hx; exact ⟨by omega, by omega, c, d⟩
    · obtain ⟨a, b, cc, d⟩ := t.sz c hm
      exact ⟨by omega, by omega, by rw [p3]; exact cc, by rw [p2]; exact d⟩
  · rcases mem x hx with hx | rfl
    · exact t.shape x hx
    · exact ⟨fun hk => by omega, fun hk => by omega⟩
  · rcases mem x hx with hx | rfl
    · exact t.vals x hx
    · intro o ho
      rcases p6 o ho with h | rfl
      · exact t.vals c hm o h
      · exact hv
end Go.Ab.Td
