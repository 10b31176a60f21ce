/- Joined texts: TdVe, TdVf, TdVl. Under: nothing. -/
import Derived.Test.YtngmifmcohmfmaaDoorTdVd
import Derived.Test.YtngmifmcohmfmaaDoorTdVg
import Derived.Test.YtngmifmcohmfmaaDoorTdFo
import Derived.Test.YtngmifmcohmfmaaDoorTdSu
import Derived.Test.YtngmifmcohmfmaaDoorTdRm
import Derived.Test.YtngmifmcohmfmaaDoorTdHi
import Derived.Test.YtngmifmcohmfmaaDoorTdAr4
/- A draft's heap is valid. Under: nothing. -/
namespace Go.Ab.Td
open Go Go.Ab
variable {P : Program}
set_option linter.unusedSimpArgs false
theorem nm_key (s : List UInt8) : (nmO s).key = nmO s := by simp [Ob.key, nmO]
theorem keysR_names {ss : List (List UInt8)} (h : ss.Pairwise (· ≠ ·)) : keysR (ss.map nmO) := by
  intro i k hk
  rw [List.getElem?_map, Option.map_eq_some_iff] at hk
  obtain ⟨s, hs, rfl⟩ := hk
  refine ⟨by simp [nmO], by simp [nmO], nm_key s, ?_⟩
  have q := idx_take (nmO s) (ss.map nmO) i 0 (by rw [List.getElem?_map, hs]; rfl)
  have no : ¬ nmO s ∈ (ss.map nmO).take i := by
    intro hm
    rw [← List.map_take] at hm
    obtain ⟨s', h1, h2⟩ := List.mem_map.1 hm
    have e : s' = s := by simp only [nmO, Ob.mk.injEq, true_and, and_true] at h2; exact h2
    subst e
    rw [← List.take_append_drop i ss] at h
    have h3 : s' ∈ ss.drop i := List.mem_of_getElem? (i := 0) (by rw [List.getElem?_drop]; exact hs)
    exact (List.pairwise_append.1 h).2.2 s' h1 s' h3 rfl
  rw [q] at no
  omega
theorem fits_nm {h : List Cl} {s : List UInt8} (hl : s.length ≤ 100) : fits h (nmO s) := fits_plain ((right_nm s false).2 hl) rfl
theorem fits_names {h : List Cl} {ss : List (List UInt8)} (hl : ∀ s ∈ ss, s.length ≤ 100) : ∀ o ∈ ss.map nmO, fits h o := by
  intro o ho
  obtain ⟨s, hs, rfl⟩ := List.mem_map.1 ho
  exact fits_nm (hl s hs)
theorem dct_R {h : List Cl} {ss : List (List UInt8)} {vs : List Ob} {m : Int} (h0 : 0 ≤ m) (h1 : m ≤ 200) (hl : ss.length = vs.length) (hm : (ss.length : Int) ≤ m) (hp : ss.Pairwise (· ≠ ·)) (hs : ∀ s ∈ ss, s.length ≤ 100) (hv : ∀ o ∈ vs, fits h o) : cellR h (dct (ss.map nmO) vs m) :=
  .inr (.inr (.inl ⟨rfl, rfl, rfl, rfl, h0, h1, by simpa [dct] using hl, by simpa [dct] using hm, fits_names hs, hv, keysR_names hp⟩))
/-- A draft's heap, valid. -/
def HeapV (h : List Cl) : Prop := HeapT h ∧ (∀ c ∈ h, cellR h c) ∧ (0 ≤ totFrom 0 h ∧ totFrom 0 h ≤ 704 + 41 * ((h.length : Int) - 10))
theorem HeapV.valid {h : List Cl} (t : HeapV h) : validH h := by
  have := t.1.len
  exact ⟨t.2.1, by have := t.2.2.2; omega⟩
theorem fits_opO {h : List Cl} {s : List UInt8} (h1 : 1 ≤ s.length) (h2 : s.length ≤ 100) : fits h (opO s) := by
  refine fits_plain ?_ rfl
  unfold opO Ob.right Ob.blank; simp; omega
theorem fits_dO5 {j : Nat} (h5 : 5 ≤ j) (h9 : j ≤ 9) : fits firstT (dO (j : Int)) := by
  refine ⟨right_dict _ (by omega) (by omega), fun _ => ⟨dct [] [] 10, ?_, rfl, fun hx => absurd rfl hx.1⟩⟩
  have : j = 5 ∨ j = 6 ∨ j = 7 ∨ j = 8 ∨ j = 9 := by omega
  rcases this with rfl | rfl | rfl | rfl | rfl <;> rfl
theorem first_V : HeapV firstT := by
  refine ⟨⟨[], by simp, by simp, first_ok⟩, ?_, by decide, by decide⟩
  intro c hc
  simp only [firstT, List.mem_cons, List.not_mem_nil, or_false] at hc
  have e0 : ∀ m : Int, 0 ≤ m → m ≤ 200 → cellR firstT (dct [] [] m) := fun m h0 h1 => dct_R (ss := []) h0 h1 rfl h0 .nil (by simp) (by simp)
  rcases hc with rfl | rfl | rfl | rfl | rfl | rfl | rfl | rfl | rfl | rfl
  · refine dct_R (ss := [sAdd, sPop]) (by decide) (by decide) rfl (by decide) (by decide) (by decide) ?_
    intro o ho
    simp only [List.mem_cons, List.not_mem_nil, or_false] at ho
    rcases ho with rfl | rfl <;> exact fits_opO (by decide) (by decide)
  · exact e0 _ (by decide) (by decide)
  · exact e0 _ (by decide) (by decide)
  · exact e0 _ (by decide) (by decide)
  · refine dct_R (ss := cats) (by decide) (by decide) rfl (by decide) (by decide) (by decide) ?_
    intro o ho
    simp only [List.mem_cons, List.not_mem_nil, or_false] at ho
    rcases ho with rfl | rfl | rfl | rfl | rfl
    · exact fits_dO5 (j := 5) (by decide) (by decide)
    · exact fits_dO5 (j := 6) (by decide) (by decide)
    · exact fits_dO5 (j := 7) (by decide) (by decide)
    · exact fits_dO5 (j := 8) (by decide) (by decide)
    · exact fits_dO5 (j := 9) (by decide) (by decide)
  all_goals exact e0 _ (by decide) (by decide)
/-- The row of an object that fits. -/
def FV (h : List Cl) (r : List PV) : Prop := ∃ o : Ob, r = encO o ∧ fits h o ∧ o.n < 9223372036854775808
theorem rowsV {h : List Cl} : ∀ {rr : List (List PV)}, (∀ x ∈ rr, FV h x) → ∃ l : List Ob, rr = l.map encO ∧ (∀ o ∈ l, fits h o) ∧ ∀ o ∈ l, o.n < 9223372036854775808
  | [], _ => ⟨[], rfl, by simp, by simp⟩
  | r :: rr, hx => by
    obtain ⟨o, rfl, hf, hn⟩ := hx r (by simp)
    obtain ⟨l, rfl, hl, hm⟩ := rowsV (rr := rr) fun x h => hx x (by simp [h])
    exact ⟨o :: l, rfl, by simpa using ⟨hf, hl⟩, by simpa using ⟨hn, hm⟩⟩
theorem slV {h : List Cl} {q : PV} {m : Nat} (hs : SlF (FV h) q m) : ∃ l : List Ob, PV.le q (.sl 7 (l.map encO)) ∧ l.length = m ∧ (∀ o ∈ l, fits h o) ∧ ∀ o ∈ l, o.n < 9223372036854775808 := by
  rcases hs with ⟨rfl, rfl⟩ | ⟨rr, rfl, h1, h3⟩
  · exact ⟨[], .emp 7, rfl, by simp, by simp⟩
  · obtain ⟨l, rfl, hl, hm⟩ := rowsV h3
    exact ⟨l, .refl _, by simpa using h1, hl, hm⟩
def wordsT (m : Nat) : List (List UInt8) := (List.range m).map fun i : Nat => wordAt (i : Int)
theorem wordsT_ok {m : Nat} (hm : m ≤ 5) : (wordsT m).Pairwise (· ≠ ·) ∧ (∀ s ∈ wordsT m, s.length ≤ 100) ∧ (wordsT m).length = m := by
  have : m = 0 ∨ m = 1 ∨ m = 2 ∨ m = 3 ∨ m = 4 ∨ m = 5 := by omega
  rcases this with rfl | rfl | rfl | rfl | rfl | rfl <;> exact ⟨by decide, by decide, by decide⟩
theorem slK_T {q : PV} {m : Nat} (hs : SlK q m) : PV.le q (.sl 7 (((wordsT m).map nmO).map encO)) := by
  rcases hs with ⟨rfl, rfl⟩ | rfl
  · exact .emp 7
  · refine le_of_eq ?_
    unfold wordsT
    rw [List.map_map, List.map_map]
    rfl
theorem nm_n {ss : List (List UInt8)} : ∀ o ∈ ss.map nmO, o.n < 9223372036854775808 := by
  intro o ho
  obtain ⟨s, _, rfl⟩ := List.mem_map.1 ho
  show (0 : Int) < _
  decide
theorem size_plain {c : Cl} (hk : c.kind ≠ 3) (h1 : c.bytes.length + c.items.length ≤ 100000) : c.size = 1 + (c.bytes.length : Int) + c.items.length := by
  unfold Cl.size
  rw [if_neg hk, wrap_small (v := 1 + (c.bytes.length : Int)) (by omega) (by omega), wrap_small (by omega) (by omega)]
theorem clOk_of {c : Cl} (hb : Byl c.kind c.bytes c.items.length) (h1 : c.items.length ≤ 1000) (h2 : c.keys.length ≤ 1000) (h3 : c.vals.length ≤ 1000) (n1 : ∀ o ∈ c.items, o.n < 9223372036854775808) (n2 : ∀ o ∈ c.keys, o.n < 9223372036854775808) (n3 : ∀ o ∈ c.vals, o.n < 9223372036854775808) : clOk c :=
  ⟨⟨by omega, by omega, by omega, by have := hb.1; omega⟩, n3, _, _, _, _, _, _, _, _, _, _, rfl, hb, slR_of h1 n1, slR_of h2 n2, slR_of h3 n3⟩
/-- A draft's cell, typed: it is valid. -/
theorem cellV_T {h : List Cl} {r : List PV} (hr : CellV (FV h) r) : ∃ c : Cl, LeL r (encC c) ∧ clOk c ∧ cellR h c ∧ 0 ≤ c.size ∧ c.size ≤ 41 := by
  rcases hr with ⟨s, h1, rfl⟩ | ⟨q, m, hm, hs, rfl⟩ | ⟨qk, qv, m, mx, h1, h2, hk, hv, rfl⟩ | ⟨s, a, mx, h1, h2, h3, h4, rfl⟩
  · refine ⟨⟨1, s, [], [], [], 0, 0⟩, .cons (.refl _) (.cons (.refl _) (.cons (.emp 7) (.cons (.emp 7) (.cons (.emp 7) (.refl _))))), clOk_of ⟨by dsimp only; omega, fun _ => ⟨by dsimp only; omega, rfl⟩, fun hk => absurd hk (by simp)⟩ (by simp) (by simp) (by simp) (by simp) (by simp) (by simp), .inl ⟨rfl, by dsimp only; omega, rfl, rfl, rfl, rfl, rfl⟩, ?_⟩
    rw [size_plain (by simp) (by simp; omega)]
    simp; omega
  · obtain ⟨l, e, hl, hf, hn⟩ := slV hs
    refine ⟨⟨2, [], l, [], [], 0, 0⟩, .cons (.refl _) (.cons (.refl _) (.cons e (.cons (.emp 7) (.cons (.emp 7) (.refl _))))), clOk_of ⟨by simp, fun hk => absurd hk (by simp), fun _ => rfl⟩ (by dsimp only; omega) (by simp) (by simp) hn (by simp) (by simp), .inr (.inl ⟨rfl, rfl, by dsimp only; omega, hf, rfl, rfl, rfl, rfl⟩), ?_⟩
    rw [size_plain (by simp) (by simp; omega)]
    simp; omega
  · obtain ⟨l, e, hl, hf, hn⟩ := slV hv
    obtain ⟨w1, w2, w3⟩ := wordsT_ok (m := m) (by omega)
    refine ⟨dct ((wordsT m).map nmO) l (mx : Int), .cons (.refl _) (.cons (.refl _) (.cons (.emp 7) (.cons (slK_T hk) (.cons e (.refl _))))), clOk_of ⟨by simp [dct], fun hk => absurd hk (by simp [dct]), fun _ => rfl⟩ (by simp [dct]) (by simp [dct, w3]; omega) (by simp [dct]; omega) (by simp [dct]) nm_n hn, dct_R (by omega) (by omega) (by omega) (by omega) w1 w2 hf, ?_⟩
    unfold Cl.size dct
    dsimp only
    rw [if_pos rfl, if_neg (by omega), if_neg (by omega)]
    omega
  · refine ⟨⟨4, s, [], [], [], mx, a⟩, .cons (.refl _) (.cons (.refl _) (.cons (.emp 7) (.cons (.emp 7) (.cons (.emp 7) (.refl _))))), clOk_of ⟨by dsimp only; omega, fun hk => absurd hk (by simp), fun hk => absurd hk (by simp)⟩ (by simp) (by simp) (by simp) (by simp) (by simp) (by simp), .inr (.inr (.inr ⟨rfl, by dsimp only; omega, rfl, rfl, rfl, h2, h3, h4⟩)), ?_⟩
    rw [size_plain (by simp) (by simp; omega)]
    simp; omega
theorem fv_objR {h : List Cl} {r : List PV} (hr : FV h r) : ObjR r := by
  obtain ⟨o, rfl, _, hn⟩ := hr
  exact ⟨_, _, _, _, _, _, _, hn, rfl⟩
theorem slF_R {h : List Cl} {q : PV} {m : Nat} (hs : SlF (FV h) q m) (hm : m ≤ 1000) : SlR q m := by
  rcases hs with h1 | ⟨rr, e, hl, hf⟩
  · exact .inl h1
  · exact .inr ⟨rr, e, hl, hm, fun x hx => fv_objR (hf x hx)⟩
theorem cellV_R {h : List Cl} {r : List PV} (hr : CellV (FV h) r) : CellR r := by
  rcases hr with ⟨s, h1, rfl⟩ | ⟨q, m, hm, hs, rfl⟩ | ⟨qk, qv, m, mx, h1, h2, hk, hv, rfl⟩ | ⟨s, a, mx, h1, h2, h3, h4, rfl⟩
  · exact ⟨_, _, _, _, _, _, _, 0, 0, 0, rfl, ⟨by omega, fun _ => ⟨by omega, rfl⟩, fun hk => absurd hk (by decide)⟩, SlR.none, SlR.none, SlR.none⟩
  · exact ⟨_, _, _, _, _, _, _, m, 0, 0, rfl, ⟨by simp, fun hk => absurd hk (by decide), fun _ => rfl⟩, slF_R hs (by omega), SlR.none, SlR.none⟩
  · refine ⟨_, _, _, _, _, _, _, 0, m, m, rfl, ⟨by simp, fun hk => absurd hk (by decide), fun _ => rfl⟩, SlR.none, ?_, slF_R hv (by omega)⟩
    rcases hk with hk | rfl
    · exact .inl hk
    · refine .inr ⟨_, rfl, by simp, by omega, fun x hx => ?_⟩
      obtain ⟨i, _, rfl⟩ := List.mem_map.1 hx
      exact ⟨_, _, _, _, _, _, _, by decide, rfl⟩
  · exact ⟨_, _, _, _, _, _, _, 0, 0, 0, rfl, ⟨by omega, fun hk => absurd hk (by decide), fun hk => absurd hk (by decide)⟩, SlR.none, SlR.none, SlR.none⟩
theorem kit_objV (C : Laid P) {h : List Cl} (t : HeapT h) {H : List (List PV)} (e : LeR H (h.map encC)) (K A B N : Int) (S : List UInt8) (hA : 0 ≤ A ∧ A < 256) (hB : 0 ≤ B ∧ B < 256) (hN : -2147483648 ≤ N ∧ N ≤ 2147483647) : ∃ r, (FV h r ∧ ObjR r) ∧ OkC P G n_ref11_Word_Obj [wordV K A B N S, .sl 7 H] [] (.agg r) := by
  have f : FV h (encO (objO h K A B N)) := ⟨_, rfl, fits_obj t K A B N hA hB hN, obj_n h K A B N hA hN⟩
  exact ⟨_, ⟨f, fv_objR f⟩, okc_arg (ok_ref11_Word_Obj C h t.small K A B N S hA hB hN) (.cons (.refl _) (.cons (le_sl e) .nil))⟩

/-- A word's cell, typed. -/
theorem kit_cellV (C : Laid P) {h : List Cl} (t : HeapT h) (K A B N : Int) (S : List UInt8) (hA : 0 ≤ A ∧ A < 256) (hB : 0 ≤ B ∧ B < 256) (hN : -2147483648 ≤ N ∧ N ≤ 2147483647) : ∃ c : Cl, (clOk c ∧ cellR h c ∧ 0 ≤ c.size ∧ c.size ≤ 41) ∧ OkC P G n_ref11_Word_Cell [wordV K A B N S, .sl 7 (List.map encC h)] [] (aC c) := by
  obtain ⟨r, h1, h2⟩ := cell_runV (FV h) (OkC P G) (h.map encC) K A B N S hA hB hN (fun K' A' B' N' S' a b n => kit_objV C t (LeR.refl _) K' A' B' N' S' a b n) (kit_dict C) (kit_name C)
  obtain ⟨c, e, hc⟩ := cellV_T h1
  exact ⟨c, hc, okc_res (ok_fnW C (k_ref11_Word_Cell C) rfl h2) (le_agg e)⟩
theorem HeapV.app {h : List Cl} (t : HeapV h) (hl : h.length < 20) {c : Cl} (h1 : clOk c) (h2 : cellR h c) (h3 : 0 ≤ c.size) (h4 : c.size ≤ 41) : HeapV (h ++ [c]) := by
  obtain ⟨⟨more, e, hm, hall⟩, hv, q1, q2⟩ := t
  have ml : h.length = 10 + more.length := by rw [e, List.length_append]; rfl
  refine ⟨⟨more ++ [c], by rw [e, List.append_assoc], by simp; omega, ?_⟩, ?_, ?_⟩
  · intro d hd
    rcases List.mem_append.1 hd with hd | hd
    · exact hall d hd
    · simp only [List.mem_singleton] at hd; subst hd; exact h1
  · intro d hd
    rcases List.mem_append.1 hd with hd | hd
    · exact cellR_mono (fun o ho => fits_app ho) (hv d hd)
    · simp only [List.mem_singleton] at hd; subst hd; exact cellR_mono (fun o ho => fits_app ho) h2
  · rw [tot_app, wrap_small (by omega) (by omega), List.length_append]
    simp only [List.length_cons, List.length_nil]
    omega
theorem kit_heapV (C : Laid P) (cells ops dicts : List (List PV)) (hc : ∀ r ∈ cells, WordN r) : ∃ h, HeapV h ∧ OkC P G n_ref11_Draft_Heap [.agg [.sl 5 cells, .sl 5 ops, .sl 1 dicts]] [] (.sl 7 (List.map encC h)) := by
  obtain ⟨H, ⟨h, e, hl, t⟩, h2⟩ := heap_runV (fun H => ∃ h, LeR H (h.map encC) ∧ H.length = h.length ∧ HeapV h) ⟨firstT, first_le, rfl, first_V⟩ (OkC P G) cells ops dicts hc (First.ok C) (fun K A B N S H hA hB hN _ hlt ⟨h, e, hl, t⟩ => by
    obtain ⟨r, h1, h2⟩ := cell_runV (FV h) (OkC P G) H K A B N S hA hB hN (fun K' A' B' N' S' a b n => kit_objV C t.1 e K' A' B' N' S' a b n) (kit_dict C) (kit_name C)
    obtain ⟨c, ec, c1, c2, c3, c4⟩ := cellV_T h1
    refine ⟨r, ⟨cellV_R h1, h ++ [c], by rw [List.map_append]; exact e.append (.cons ec .nil), by simp [hl], t.app (by omega) c1 c2 c3 c4⟩, ok_fnW C (k_ref11_Word_Cell C) rfl h2⟩)
  exact ⟨h, t, okc_res (ok_fnW C (k_ref11_Draft_Heap C) rfl h2) (le_sl e)⟩
end Go.Ab.Td

/- Dictionaries in valid heaps: after a Store, after a Remove. Under: nothing. -/
namespace Go.Ab.Td
open Go Go.Ab
set_option linter.unusedSimpArgs false
end Go.Ab.Td

/- Little facts for the laws of valid heaps. Under: nothing. -/
namespace Go.Ab.Td
open Go Go.Ab
theorem nC.objs {c : Cl} (h : nC c) : ∀ l ∈ objsOf c, ∀ o ∈ l, o.n < 9223372036854775808 := by
  unfold objsOf
  exact all3.2 h
theorem slR_n {l : List Ob} {m : Nat} (h : SlR (.sl 7 (l.map encO)) m) : ∀ o ∈ l, o.n < 9223372036854775808 := by
  intro o ho
  rcases h with ⟨h1, -⟩ | ⟨rr, h1, -, -, hf⟩
  · cases h1
  · simp only [PV.sl.injEq, true_and] at h1
    subst h1
    obtain ⟨k, e, n, s, r, f, l, hn, he⟩ := hf (encO o) (List.mem_map_of_mem ho)
    simp only [encO, List.cons.injEq, PV.int.injEq, true_and] at he
    rw [he.2.2.1]
    exact hn
theorem clOk.nC {c : Cl} (h : clOk c) : nC c := by
  obtain ⟨-, -, k, b, q1, q2, q3, mx, a, m1, m2, m3, he, -, h1, h2, h3⟩ := h
  simp only [encC, List.cons.injEq, PV.int.injEq, PV.str.injEq, true_and] at he
  obtain ⟨-, -, e1, e2, e3, -⟩ := he
  subst e1 e2 e3
  exact ⟨slR_n h1, slR_n h2, slR_n h3⟩
end Go.Ab.Td
