/- Joined texts: TdKitF, TdKit, TdTy. Under: nothing. -/
import Derived.Test.YtngmifmcohmfmaaDoorTdState
import Derived.Test.YtngmifmcohmfmaaDoorAbG5
import Derived.Test.YtngmifmcohmfmaaDoorSp3
/- The first cells: a closed run. Under: nothing. -/
namespace Go.Ab.Td
open Go Go.Ab
variable {P : Program}
namespace First
def tb (g : Nat) : Option RFn := match g == n_ref11_dict with | true => some c_ref11_dict | false => match g == n_ref11_name with | true => some c_ref11_name | false => none
def tc (g : Nat) : Option RFn := match g == n_ref11_Categories with | true => some c_ref11_Categories | false => tb g
def to (g : Nat) : Option RFn := match g == n_ref11_First with | true => some c_ref11_First | false => none
theorem tb_ok (C : Laid P) : ∀ g c, tb g = some c → chkFn P g c = true := by
  intro g c h
  unfold tb at h
  split at h
  · rename_i hg; cases h; rw [beq_iff_eq] at hg; subst hg; exact k_ref11_dict C
  · split at h
    · rename_i hg; cases h; rw [beq_iff_eq] at hg; subst hg; exact k_ref11_name C
    · cases h
theorem tc_ok (C : Laid P) : ∀ g c, tc g = some c → chkFn P g c = true := by
  intro g c h
  unfold tc at h
  split at h
  · rename_i hg; cases h; rw [beq_iff_eq] at hg; subst hg; exact k_ref11_Categories C
  · exact tb_ok C g c h
theorem to_ok (C : Laid P) : ∀ g c, to g = some c → chkFn P g c = true := by
  intro g c h
  unfold to at h
  split at h
  · rename_i hg; cases h; rw [beq_iff_eq] at hg; subst hg; exact k_ref11_First C
  · cases h
theorem run : isR [(0, 0)] (.sl 7 first10) ((envE G kn0 noX tb noT tc to 10000 20).call n_ref11_First [.sl 1 [[.str sAdd], [.str sPop]]]) = true := by kernel_rfl
theorem ok (C : Laid P) : OkC P G n_ref11_First [.sl 1 [[.str sAdd], [.str sPop]]] [(0, 0)] (.sl 7 first10) :=
  ok_of_run C.mixed (fun _ _ _ _ h => by cases h) (fun _ _ h => by cases h) (tb_ok C) (fun _ _ h => by cases h) (tc_ok C) (to_ok C) (isR_eq run)
end First
end Go.Ab.Td

/- The functions of drafts: contracts. Under: nothing. -/
namespace Go.Ab.Td
open Go Go.Ab
variable {P : Program}
theorem ok_fnW (C : Laid P) {g : Nat} {c : RFn} {ps : List PV} {r : PV} (hk : chkFn P g c = true) (hl : ps.length = c.nparams) (h : fnW G (OkC P G) noX noT noT 0 c ps r) : OkC P G g ps [] r :=
  ok_of_fnW C.mixed hk (fun _ _ h => by cases h) (fun _ _ h => by cases h) (fun _ _ h => by cases h) hl h
theorem kit_pick (C : Laid P) (rows : List (List PV)) (hr : ∀ r ∈ rows, CellR r) (hl : rows.length ≤ 1000000) (kind n : Int) (hn : 0 ≤ n) : OkC P G n_ref11_pick [.sl 7 rows, .int .i64 kind, .int .i64 n] [] (.int .i64 (pickSpec rows kind n)) :=
  ok_fnW C (k_ref11_pick C) rfl (pick_run _ rows kind n (fun r h => (hr r h).k) hl hn)
section
variable (C : Laid P) (rows : List (List PV)) (hr : ∀ r ∈ rows, CellR r) (hl : rows.length ≤ 1000000) (kd K A B N : Int) (S : List UInt8) (hA : 0 ≤ A ∧ A < 256) (hB : 0 ≤ B ∧ B < 256)
include C hr hl hA
include hB in
theorem kit_part1 : ∃ r, ObjR r ∧ OkC P G n_ref11_part [.sl 7 rows, .int .i64 kd, .int .i64 1, wordV K A B N S] [] (.agg r) := by
  obtain ⟨r, h1, h2⟩ := part1 (OkC P G) rows hr (kit_pick C rows hr hl) kd K A B N S hA hB
  exact ⟨r, h1, ok_fnW C (k_ref11_part C) rfl h2⟩
include hB in
theorem kit_part2 : ∃ r, ObjR r ∧ OkC P G n_ref11_part [.sl 7 rows, .int .i64 kd, .int .i64 2, wordV K A B N S] [] (.agg r) := by
  obtain ⟨r, h1, h2⟩ := part2 (OkC P G) rows hr (kit_pick C rows hr hl) kd K A B N S hA hB
  exact ⟨r, h1, ok_fnW C (k_ref11_part C) rfl h2⟩
theorem kit_part3 : ∃ r, ObjR r ∧ OkC P G n_ref11_part [.sl 7 rows, .int .i64 kd, .int .i64 3, wordV K A B N S] [] (.agg r) := by
  obtain ⟨r, h1, h2⟩ := part3 (OkC P G) rows (kit_pick C rows hr hl) kd K A B N S hA
  exact ⟨r, h1, ok_fnW C (k_ref11_part C) rfl h2⟩
theorem kit_part4 : ∃ r, ObjR r ∧ OkC P G n_ref11_part [.sl 7 rows, .int .i64 kd, .int .i64 4, wordV K A B N S] [] (.agg r) := by
  obtain ⟨r, h1, h2⟩ := part4 (OkC P G) rows (kit_pick C rows hr hl) kd K A B N S hA
  exact ⟨r, h1, ok_fnW C (k_ref11_part C) rfl h2⟩
include hB in
theorem kit_obj : ∃ r, ObjR r ∧ OkC P G n_ref11_Word_Obj [wordV K A B N S, .sl 7 rows] [] (.agg r) := by
  obtain ⟨r, h1, h2⟩ := obj_run (OkC P G) rows K A B N S hA (kit_part1 C rows hr hl 6 K A B N S hA hB) (kit_part2 C rows hr hl 7 K A B N S hA hB) (kit_part2 C rows hr hl 8 K A B N S hA hB) (kit_part3 C rows hr hl 9 K A B N S hA) (kit_part4 C rows hr hl 11 K A B N S hA)
  exact ⟨r, h1, ok_fnW C (k_ref11_Word_Obj C) rfl h2⟩
end
theorem kit_dict (C : Laid P) (n : Int) : OkC P G n_ref11_dict [.int .i64 n] [] (dictV n) := ok_fnW C (k_ref11_dict C) rfl (by (conv => whnf); rfl)
theorem kit_name (C : Laid P) (s : List UInt8) : OkC P G n_ref11_name [.str s] [] (nameV s) := ok_fnW C (k_ref11_name C) rfl (by (conv => whnf); rfl)
theorem HeapR.all {H : List (List PV)} (h : HeapR H) : (∀ r ∈ H, CellR r) ∧ H.length ≤ 1000000 := by
  obtain ⟨more, rfl, h1, h2⟩ := h
  exact ⟨h2, by simp [first10]; omega⟩
theorem kit_cell (C : Laid P) (K A B N : Int) (S : List UInt8) (H : List (List PV)) (hA : 0 ≤ A ∧ A < 256) (hB : 0 ≤ B ∧ B < 256) (hH : HeapR H) : ∃ r, CellR r ∧ OkC P G n_ref11_Word_Cell [wordV K A B N S, .sl 7 H] [] (.agg r) := by
  obtain ⟨r, h1, h2⟩ := cell_run (OkC P G) H K A B N S hA hB (fun K' A' B' N' S' a b => kit_obj C H hH.all.1 hH.all.2 K' A' B' N' S' a b) (kit_dict C) (kit_name C)
  exact ⟨r, h1, ok_fnW C (k_ref11_Word_Cell C) rfl h2⟩
theorem kit_heap (C : Laid P) (cells ops dicts : List (List PV)) (hc : ∀ r ∈ cells, WordR r) : ∃ H, HeapR H ∧ OkC P G n_ref11_Draft_Heap [.agg [.sl 5 cells, .sl 5 ops, .sl 1 dicts]] [] (.sl 7 H) := by
  obtain ⟨H, h1, h2⟩ := heap_run (OkC P G) cells ops dicts hc (First.ok C) (kit_cell C)
  exact ⟨H, h1, ok_fnW C (k_ref11_Draft_Heap C) rfl h2⟩
theorem kit_state (C : Laid P) (cells ops dicts : List (List PV)) (hc : ∀ r ∈ cells, WordR r) (ho : ∀ r ∈ ops, WordR r) (hd : ∀ r ∈ dicts, ∃ D, r = [.int .u8 D] ∧ 0 ≤ D ∧ D < 256) :
    ∃ H O D, HeapR H ∧ (∃ m, m ≤ 20 ∧ SlR O m) ∧ DictsR D H ∧ OkC P G n_ref11_Draft_State [.agg [.sl 5 cells, .sl 5 ops, .sl 1 dicts]] [] (stV O (.sl 7 D) (.sl 7 H) (.int .i64 1)) := by
  obtain ⟨H, O, D, h1, h2, h3, h4⟩ := state_run (OkC P G) cells ops dicts ho hd (kit_heap C cells ops dicts hc) (fun K A B N S H a b hH => kit_obj C H hH.all.1 hH.all.2 K A B N S a b) (fun H n hH hn => kit_pick C H hH.all.1 hH.all.2 3 n hn)
  exact ⟨H, O, D, h1, h2, h3, ok_fnW C (k_ref11_Draft_State C) rfl h4⟩
end Go.Ab.Td

/- A draft's state, typed. Under: nothing. -/
namespace Go.Ab.Td
open Go Go.Ab
variable {P : Program}

theorem okc_res {g : Nat} {ps : List PV} {p r : PV} (h : OkC P G g ps [] p) (hl : PV.le p r) : OkC P G g ps [] r := by
  intro w I vs hb hg ha
  obtain ⟨h1, h2⟩ := h w I vs hb hg ha
  refine ⟨h1, CallsIn.mono h2 fun e w' he => ?_⟩
  cases e with
  | returned v =>
    obtain ⟨I', a, b, c, d⟩ := he
    refine ⟨I', a, b, c, fun nm => ?_⟩
    obtain ⟨ι, e1, e2⟩ := d nm
    cases e2 with
    | pv hp => exact ⟨ι, e1, .pv (hp.le hl)⟩
  | _ => exact he.elim

theorem objT {r : List PV} (h : ObjR r) : ∃ o : Ob, r = encO o ∧ o.n < 9223372036854775808 := by
  obtain ⟨k, e, n, s, rf, o, l, hn, rfl⟩ := h
  exact ⟨⟨k, e, n, s, rf, o, l⟩, rfl, hn⟩
theorem rowsT : ∀ {rr : List (List PV)}, (∀ x ∈ rr, ObjR x) → ∃ l : List Ob, rr = l.map encO ∧ ∀ o ∈ l, o.n < 9223372036854775808
  | [], _ => ⟨[], rfl, by simp⟩
  | r :: rr, h => by
    obtain ⟨o, rfl, hn⟩ := objT (h r (by simp))
    obtain ⟨l, rfl, hl⟩ := rowsT (rr := rr) fun x hx => h x (by simp [hx])
    refine ⟨o :: l, rfl, ?_⟩
    intro x hx
    rcases List.mem_cons.1 hx with rfl | hx
    · exact hn
    · exact hl x hx
theorem slT {q : PV} {m : Nat} (h : SlR q m) : ∃ l : List Ob, PV.le q (.sl 7 (l.map encO)) ∧ l.length = m ∧ m ≤ 1000 ∧ ∀ o ∈ l, o.n < 9223372036854775808 := by
  rcases h with ⟨rfl, rfl⟩ | ⟨rr, rfl, h1, h2, h3⟩
  · exact ⟨[], .emp 7, rfl, by omega, by simp⟩
  · obtain ⟨l, rfl, hl⟩ := rowsT h3
    exact ⟨l, .refl _, by simpa using h1, h2, hl⟩
/-- A cell whose numbers are a machine's. -/
def clOk (c : Cl) : Prop := c.small ∧ (∀ o ∈ c.vals, o.n < 9223372036854775808) ∧ CellR (encC c)
theorem slR_of {l : List Ob} (h : l.length ≤ 1000) (hn : ∀ o ∈ l, o.n < 9223372036854775808) : SlR (.sl 7 (l.map encO)) l.length := .inr ⟨_, rfl, by simp, h, fun x hx => by
  obtain ⟨o, ho, rfl⟩ := List.mem_map.1 hx
  exact ⟨_, _, _, _, _, _, _, hn o ho, rfl⟩⟩
theorem cellT {r : List PV} (h : CellR r) : ∃ c : Cl, LeL r (encC c) ∧ clOk c := by
  obtain ⟨k, b, q1, q2, q3, mx, a, m1, m2, m3, rfl, hb, h1, h2, h3⟩ := h
  have hb0 := hb.1
  obtain ⟨l1, e1, n1, b1, d1⟩ := slT h1
  obtain ⟨l2, e2, n2, b2, d2⟩ := slT h2
  obtain ⟨l3, e3, n3, b3, d3⟩ := slT h3
  exact ⟨⟨k, b, l1, l2, l3, mx, a⟩, .cons (.refl _) (.cons (.refl _) (.cons e1 (.cons e2 (.cons e3 (.refl _))))), ⟨by simp; omega, by simp; omega, by simp; omega, by simp; omega⟩, d3, ⟨_, _, _, _, _, _, _, _, _, _, rfl, by dsimp only; rw [n1]; exact hb, slR_of (by dsimp only; omega) d1, slR_of (by dsimp only; omega) d2, slR_of (by dsimp only; omega) d3⟩⟩
theorem cellsT : ∀ {rr : List (List PV)}, (∀ x ∈ rr, CellR x) → ∃ l : List Cl, LeR rr (l.map encC) ∧ l.length = rr.length ∧ ∀ c ∈ l, clOk c
  | [], _ => ⟨[], .nil, rfl, by simp⟩
  | r :: rr, h => by
    obtain ⟨c, e, hc⟩ := cellT (h r (by simp))
    obtain ⟨l, el, hn, hl⟩ := cellsT (rr := rr) fun x hx => h x (by simp [hx])
    refine ⟨c :: l, .cons e el, by simp [hn], ?_⟩
    intro x hx
    rcases List.mem_cons.1 hx with rfl | hx
    · exact hc
    · exact hl x hx

def dct (k v : List Ob) (m : Int) : Cl := ⟨3, [], [], k, v, m, 0⟩
def opO (s : List UInt8) : Ob := ⟨10, true, 0, s, 0, 0, 0⟩
def dO (n : Int) : Ob := ⟨9, false, 0, [], n, 0, 0⟩
def catT : Cl := dct (cats.map nmO) [dO 5, dO 6, dO 7, dO 8, dO 9] 5
def firstT : List Cl := [dct [nmO sAdd, nmO sPop] [opO sAdd, opO sPop] 200, dct [] [] 50, dct [] [] 30, dct [] [] 12, catT, dct [] [] 10, dct [] [] 10, dct [] [] 10, dct [] [] 10, dct [] [] 10]
theorem dctE (m : Int) : LeL (dictRow (.emp 7) (.emp 7) m) (encC (dct [] [] m)) := .cons (.refl _) (.cons (.refl _) (.cons (.emp 7) (.cons (.emp 7) (.cons (.emp 7) (.refl _)))))
theorem dctN (k v : List Ob) (m : Int) : LeL (dictRow (.sl 7 (k.map encO)) (.sl 7 (v.map encO)) m) (encC (dct k v m)) := .cons (.refl _) (.cons (.refl _) (.cons (.emp 7) (.refl _)))
theorem first_le : LeR first10 (firstT.map encC) :=
  .cons (dctN [nmO sAdd, nmO sPop] [opO sAdd, opO sPop] 200) (.cons (dctE 50) (.cons (dctE 30) (.cons (dctE 12) (.cons (dctN (cats.map nmO) [dO 5, dO 6, dO 7, dO 8, dO 9] 5)
    (.cons (dctE 10) (.cons (dctE 10) (.cons (dctE 10) (.cons (dctE 10) (.cons (dctE 10) .nil)))))))))
theorem first_ok : ∀ c ∈ firstT, clOk c := by
  intro c hc
  simp only [firstT, List.mem_cons, List.not_mem_nil, or_false] at hc
  rcases hc with rfl | rfl | rfl | rfl | rfl | rfl | rfl | rfl | rfl | rfl <;> (refine ⟨⟨by decide, by decide, by decide, by decide⟩, by decide, ⟨_, _, _, _, _, _, _, _, _, _, rfl, ⟨by decide, by decide, by decide⟩, slR_of (by decide) (by decide), slR_of (by decide) (by decide), slR_of (by decide) (by decide)⟩⟩)
/-- A draft's heap. -/
def HeapT (h : List Cl) : Prop := ∃ more, h = firstT ++ more ∧ more.length ≤ 10 ∧ ∀ c ∈ h, clOk c
theorem heapT {H : List (List PV)} (h : HeapR H) : ∃ t : List Cl, LeR H (t.map encC) ∧ t.length = H.length ∧ HeapT t := by
  obtain ⟨more, rfl, hm, hall⟩ := h
  obtain ⟨l, e, hn, hl⟩ := cellsT (rr := more) fun x hx => hall x (by simp [hx])
  refine ⟨firstT ++ l, by rw [List.map_append]; exact first_le.append e, by simp [hn, firstT, first10], l, rfl, by omega, ?_⟩
  intro c hc
  rcases List.mem_append.1 hc with hc | hc
  · exact first_ok c hc
  · exact hl c hc
theorem HeapT.rows {h : List Cl} (t : HeapT h) : (∀ r ∈ h.map encC, CellR r) ∧ (h.map encC).length ≤ 1000000 := by
  obtain ⟨more, rfl, hm, hall⟩ := t
  refine ⟨fun r hr => ?_, by simp [firstT]; omega⟩
  obtain ⟨c, hc, rfl⟩ := List.mem_map.1 hr
  exact (hall c hc).2.2
theorem HeapT.small {h : List Cl} (t : HeapT h) : small h := by
  obtain ⟨more, rfl, hm, hall⟩ := t
  exact ⟨by simp [firstT]; omega, fun c hc => (hall c hc).1⟩
/-- A state as a draft begins it. -/
def mkS (ops dicts : List Ob) (heap : List Cl) : Sta := ⟨ops, dicts, heap, [], 0, 0, 0, 0, 0, 0, 0, [], 0, 0, 0, 0, 0, 0, 0, 0, 0, 0, 0, 0, 0, 0, 0, 0, 0, 0, 0, 0, false, false, [], 0, 0, 0, 0, 0, 0, 0, 0, [], 0, 0, [], 0, false, 0, [], 0, 0, 0, 0, 0, 0, 0, 0, 0, 0, 0, [], [], [], [], 1⟩
/-- A draft's state. -/
def StaT (s : Sta) : Prop := ∃ ops dicts heap, s = mkS ops dicts heap ∧ HeapT heap ∧ ops.length ≤ 20 ∧ (∀ o ∈ ops, o.n < 9223372036854775808) ∧ 2 ≤ dicts.length ∧ dicts.length ≤ 6 ∧ ∀ o ∈ dicts, ∃ j : Int, o = dO j ∧ 0 ≤ j ∧ j < heap.length
theorem kit_stateT (C : Laid P) (cells ops dicts : List (List PV)) (hc : ∀ r ∈ cells, WordR r) (ho : ∀ r ∈ ops, WordR r) (hd : ∀ r ∈ dicts, ∃ D, r = [.int .u8 D] ∧ 0 ≤ D ∧ D < 256) :
    ∃ s, StaT s ∧ OkC P G n_ref11_Draft_State [.agg [.sl 5 cells, .sl 5 ops, .sl 1 dicts]] [] (aS s) := by
  obtain ⟨H, O, D, hH, ⟨m, hm, hO⟩, hD, h⟩ := kit_state C cells ops dicts hc ho hd
  obtain ⟨t, e1, hn, ht⟩ := heapT hH
  obtain ⟨lo, e2, hlo, _, hob⟩ := slT hO
  have hDt : ∀ {rr : List (List PV)}, (∀ r ∈ rr, ∃ j : Int, r = dRow j ∧ 0 ≤ j ∧ j < H.length) → ∃ l : List Ob, rr = l.map encO ∧ ∀ o ∈ l, ∃ j : Int, o = dO j ∧ 0 ≤ j ∧ j < H.length := by
    intro rr
    induction rr with
    | nil => exact fun _ => ⟨[], rfl, by simp⟩
    | cons r rr ih =>
      intro hx
      obtain ⟨j, rfl, hj⟩ := hx r (by simp)
      obtain ⟨l, rfl, hl⟩ := ih fun y hy => hx y (by simp [hy])
      refine ⟨dO j :: l, rfl, ?_⟩
      intro y hy
      rcases List.mem_cons.1 hy with rfl | hy
      · exact ⟨j, rfl, hj⟩
      · exact hl y hy
  obtain ⟨d1, d2, d3⟩ := hD
  obtain ⟨ld, rfl, hld⟩ := hDt d3
  refine ⟨mkS lo ld t, ⟨lo, ld, t, rfl, ht, by omega, hob, by simpa using d1, by simpa using d2, by rw [hn]; exact hld⟩, okc_res h ?_⟩
  refine le_agg (.cons e2 (.cons (.refl _) (.cons (le_sl e1) ?_)))
  exact .cons (.emp _) (.cons (.refl _) (.cons (.refl _) (.cons (.refl _) (.cons (.refl _) (.cons (.refl _) (.cons (.refl _) (.cons (.refl _) (.cons (.emp _) (.cons (.refl _) (.cons (.refl _) (.cons (.refl _) (.cons (.refl _) (.cons (.refl _) (.cons (.refl _) (.cons (.refl _) (.cons (.refl _) (.cons (.refl _) (.cons (.refl _) (.cons (.refl _) (.cons (.refl _) (.cons (.refl _) (.cons (.refl _) (.cons (.refl _) (.cons (.refl _) (.cons (.refl _) (.cons (.refl _) (.cons (.refl _) (.cons (.refl _) (.cons (.refl _) (.cons (.refl _) (.cons (.emp _) (.cons (.refl _) (.cons (.refl _) (.cons (.refl _) (.cons (.refl _) (.cons (.refl _) (.cons (.refl _) (.cons (.refl _) (.cons (.refl _) (.cons (.emp _) (.cons (.refl _) (.cons (.refl _) (.cons (.emp _) (.cons (.refl _) (.cons (.refl _) (.cons (.refl _) (.cons (.refl _) (.cons (.refl _) (.cons (.refl _) (.cons (.refl _) (.cons (.refl _) (.cons (.refl _) (.cons (.refl _) (.cons (.refl _) (.cons (.refl _) (.cons (.refl _) (.cons (.refl _) (.cons (.refl _) (.cons (.emp _) (.cons (.emp _) (.cons (.emp _) (.cons (.refl _) (.cons (.refl _) (.nil))))))))))))))))))))))))))))))))))))))))))))))))))))))))))))))))
end Go.Ab.Td
