/- Joined texts: TdKitF, TdKit, TdTy. Under: nothing. -/
import Derived.Test.YtngmifmcohmfmaaDoorTdState
import Derived.Test.YtngmifmcohmfmaaDoorAbG5
import Derived.Test.YtngmifmcohmfmaaDoorSp3
/- The first cells: a closed run. Under: nothing. -/
namespace Go.Ab.Td
open Go Go.Ab
variable {P : Program}
namespace First
def tb (g : Nat) : Option RFn := match g == n_ref11_dict with | true => some c_ref11_dict | false => match g == n_ref11_name with | true => some c_ref11_name | false => none
def tc (g : Nat) : Option RFn := match g == n_ref11_Categories with | true => some c_ref11_Categories | false => tb g
def to (g : Nat) : Option RFn := match g == n_ref11_First with | true => some c_ref11_First | false => none
theorem tb_ok (C : Laid P) : ∀ g c, tb g = some c → chkFn P g c = true := by
  intro g c h
  unfold tb at h
  split at h
  · rename_i hg; cases h; rw [beq_iff_eq] at hg; subst hg; exact k_ref11_dict C
  · split at h
    · rename_i hg; cases h; rw [beq_iff_eq] at hg; subst hg; exact k_ref11_name C
    · cases h
theorem tc_ok (C : Laid P) : ∀ g c, tc g = some c → chkFn P g c = true := by
  intro g c h
  unfold tc at h
  split at h
  · rename_i hg; cases h; rw [beq_iff_eq] at hg; subst hg; exact k_ref11_Categories C
  · exact tb_ok C g c h
theorem to_ok (C : Laid P) : ∀ g c, to g = some c → chkFn P g c = true := by
  intro g c h
  unfold to at h
  split at h
  · rename_i hg; cases h; rw [beq_iff_eq] at hg; subst hg; exact k_ref11_First C
  · cases h
theorem run : isR [(0, 0)] (.sl 7 first10) ((envE G kn0 noX tb noT tc to 10000 20).call n_ref11_First [.sl 1 [[.str sAdd], [.str sPop]]]) = true := by kernel_rfl
theorem ok (C : Laid P) : OkC P G n_ref11_First [.sl 1 [[.str sAdd], [.str sPop]]] [(0, 0)] (.sl 7 first10) :=
  ok_of_run C.mixed (fun _ _ _ _ h => by cases h) (fun _ _ h => by cases h) (tb_ok C) (fun _ _ h => by cases h) (tc_ok C) (to_ok C) (isR_eq run)
end First
end Go.Ab.Td

/- The functions of drafts: contracts. Under: nothing. -/
namespace Go.Ab.Td
open Go Go.Ab
variable {P : Program}
theorem ok_fnW (C : Laid P) {g : Nat} {c : RFn} {ps : List PV} {r : PV} (hk : chkFn P g c = true) (hl : ps.length = c.nparams) (h : fnW G (OkC P G) noX noT noT 0 c ps r) : OkC P G g ps [] r :=
  ok_of_fnW C.mixed hk (fun _ _ h => by cases h) (fun _ _ h => by cases h) (fun _ _ h => by cases h) hl h
section
variable (C : Laid P) (rows : List (List PV)) (hr : ∀ r ∈ rows, CellR r) (hl : rows.length ≤ 1000000) (kd K A B N : Int) (S : List UInt8) (hA : 0 ≤ A ∧ A < 256) (hB : 0 ≤ B ∧ B < 256)
include C hr hl hA
end
theorem kit_dict (C : Laid P) (n : Int) : OkC P G n_ref11_dict [.int .i64 n] [] (dictV n) := ok_fnW C (k_ref11_dict C) rfl (by (conv => whnf); rfl)
theorem kit_name (C : Laid P) (s : List UInt8) : OkC P G n_ref11_name [.str s] [] (nameV s) := ok_fnW C (k_ref11_name C) rfl (by (conv => whnf); rfl)
theorem HeapR.all {H : List (List PV)} (h : HeapR H) : (∀ r ∈ H, CellR r) ∧ H.length ≤ 1000000 := by
  obtain ⟨more, rfl, h1, h2⟩ := h
  exact ⟨h2, by simp [first10]; omega⟩
end Go.Ab.Td

/- A draft's state, typed. Under: nothing. -/
namespace Go.Ab.Td
open Go Go.Ab
variable {P : Program}

theorem okc_res {g : Nat} {ps : List PV} {p r : PV} (h : OkC P G g ps [] p) (hl : PV.le p r) : OkC P G g ps [] r := by
  intro w I vs hb hg ha
  obtain ⟨h1, h2⟩ := h w I vs hb hg ha
  refine ⟨h1, CallsIn.mono h2 fun e w' he => ?_⟩
  cases e with
  | returned v =>
    obtain ⟨I', a, b, c, d⟩ := he
    refine ⟨I', a, b, c, fun nm => ?_⟩
    obtain ⟨ι, e1, e2⟩ := d nm
    cases e2 with
    | pv hp => exact ⟨ι, e1, .pv (hp.le hl)⟩
  | _ => exact he.elim

/-- A cell whose numbers are a machine's. -/
def clOk (c : Cl) : Prop := c.small ∧ (∀ o ∈ c.vals, o.n < 9223372036854775808) ∧ CellR (encC c)
theorem slR_of {l : List Ob} (h : l.length ≤ 1000) (hn : ∀ o ∈ l, o.n < 9223372036854775808) : SlR (.sl 7 (l.map encO)) l.length := .inr ⟨_, rfl, by simp, h, fun x hx => by
  obtain ⟨o, ho, rfl⟩ := List.mem_map.1 hx
  exact ⟨_, _, _, _, _, _, _, hn o ho, rfl⟩⟩
theorem clOk.shape {c : Cl} (h : clOk c) : (c.kind = 1 → c.items = [] ∧ c.bytes.length ≤ 1000) ∧ (c.kind = 2 → c.bytes = [] ∧ c.items.length ≤ 1000) := by
  obtain ⟨-, -, k, b, q1, q2, q3, mx, a, m1, m2, m3, he, hb, h1, h2, h3⟩ := h
  simp only [encC, List.cons.injEq, PV.int.injEq, PV.str.injEq, true_and] at he
  obtain ⟨e1, e2, e3, -⟩ := he
  subst e1 e2 e3
  rcases h1 with ⟨h1, -⟩ | ⟨rr, h1, hl, hm, -⟩
  · cases h1
  · simp only [PV.sl.injEq, true_and] at h1
    subst h1
    simp only [List.length_map] at hl
    subst hl
    exact ⟨fun hk => ⟨List.eq_nil_of_length_eq_zero (hb.2.1 hk).2, (hb.2.1 hk).1⟩, fun hk => ⟨hb.2.2 hk, hm⟩⟩
def dct (k v : List Ob) (m : Int) : Cl := ⟨3, [], [], k, v, m, 0⟩
def opO (s : List UInt8) : Ob := ⟨10, true, 0, s, 0, 0, 0⟩
def dO (n : Int) : Ob := ⟨9, false, 0, [], n, 0, 0⟩
def catT : Cl := dct (cats.map nmO) [dO 5, dO 6, dO 7, dO 8, dO 9] 5
def firstT : List Cl := [dct [nmO sAdd, nmO sPop] [opO sAdd, opO sPop] 200, dct [] [] 50, dct [] [] 30, dct [] [] 12, catT, dct [] [] 10, dct [] [] 10, dct [] [] 10, dct [] [] 10, dct [] [] 10]
theorem dctE (m : Int) : LeL (dictRow (.emp 7) (.emp 7) m) (encC (dct [] [] m)) := .cons (.refl _) (.cons (.refl _) (.cons (.emp 7) (.cons (.emp 7) (.cons (.emp 7) (.refl _)))))
theorem dctN (k v : List Ob) (m : Int) : LeL (dictRow (.sl 7 (k.map encO)) (.sl 7 (v.map encO)) m) (encC (dct k v m)) := .cons (.refl _) (.cons (.refl _) (.cons (.emp 7) (.refl _)))
theorem first_le : LeR first10 (firstT.map encC) :=
  .cons (dctN [nmO sAdd, nmO sPop] [opO sAdd, opO sPop] 200) (.cons (dctE 50) (.cons (dctE 30) (.cons (dctE 12) (.cons (dctN (cats.map nmO) [dO 5, dO 6, dO 7, dO 8, dO 9] 5)
    (.cons (dctE 10) (.cons (dctE 10) (.cons (dctE 10) (.cons (dctE 10) (.cons (dctE 10) .nil)))))))))
theorem first_ok : ∀ c ∈ firstT, clOk c := by
  intro c hc
  simp only [firstT, List.mem_cons, List.not_mem_nil, or_false] at hc
  rcases hc with rfl | rfl | rfl | rfl | rfl | rfl | rfl | rfl | rfl | rfl <;> (refine ⟨⟨by decide, by decide, by decide, by decide⟩, by decide, ⟨_, _, _, _, _, _, _, _, _, _, rfl, ⟨by decide, by decide, by decide⟩, slR_of (by decide) (by decide), slR_of (by decide) (by decide), slR_of (by decide) (by decide)⟩⟩)
/-- A draft's heap. -/
def HeapT (h : List Cl) : Prop := ∃ more, h = firstT ++ more ∧ more.length ≤ 10 ∧ ∀ c ∈ h, clOk c
theorem HeapT.rows {h : List Cl} (t : HeapT h) : (∀ r ∈ h.map encC, CellR r) ∧ (h.map encC).length ≤ 1000000 := by
  obtain ⟨more, rfl, hm, hall⟩ := t
  refine ⟨fun r hr => ?_, by simp [firstT]; omega⟩
  obtain ⟨c, hc, rfl⟩ := List.mem_map.1 hr
  exact (hall c hc).2.2
theorem HeapT.small {h : List Cl} (t : HeapT h) : small h := by
  obtain ⟨more, rfl, hm, hall⟩ := t
  exact ⟨by simp [firstT]; omega, fun c hc => (hall c hc).1⟩
/-- A state as a draft begins it. -/
def mkS (ops dicts : List Ob) (heap : List Cl) : Sta := ⟨ops, dicts, heap, [], 0, 0, 0, 0, 0, 0, 0, [], 0, 0, 0, 0, 0, 0, 0, 0, 0, 0, 0, 0, 0, 0, 0, 0, 0, 0, 0, 0, false, false, [], 0, 0, 0, 0, 0, 0, 0, 0, [], 0, 0, [], 0, false, 0, [], 0, 0, 0, 0, 0, 0, 0, 0, 0, 0, 0, [], [], [], [], 1⟩
/-- A draft's state. -/
def StaT (s : Sta) : Prop := ∃ ops dicts heap, s = mkS ops dicts heap ∧ HeapT heap ∧ ops.length ≤ 20 ∧ (∀ o ∈ ops, o.n < 9223372036854775808) ∧ 2 ≤ dicts.length ∧ dicts.length ≤ 6 ∧ ∀ o ∈ dicts, ∃ j : Int, o = dO j ∧ 0 ≤ j ∧ j < heap.length
end Go.Ab.Td
