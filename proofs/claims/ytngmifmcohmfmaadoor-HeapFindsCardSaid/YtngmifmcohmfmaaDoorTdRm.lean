/- Removing. Under: nothing. -/
import Derived.Test.YtngmifmcohmfmaaDoorTdSm
import Derived.Test.YtngmifmcohmfmaaDoorAbPd
namespace Go.Ab.Td
open Go Go.Ab
variable {P : Program}
set_option linter.unusedSimpArgs false
attribute [local irreducible] compat deleteE
def zeroO : List PV := [.int .i64 0, .bool false, .int .i64 0, .str [], .int .i64 0, .int .i64 0, .int .i64 0]
/-- With slices.Delete said outright. -/
def GP : Gl := ⟨G.gl, fun g => match Nat.beq g n_slices_Delete_Obj with | true => some (deletePrim 7 zeroO) | false => none⟩
theorem del_eq : c_slices_Delete_Obj = deleteC 7 64 zeroO := rfl
theorem gp_prim (C : Laid P) : ∀ g p, GP.prim g = some p → PrimOk1 P g p := by
  intro g p hg
  simp only [GP] at hg
  split at hg
  · rename_i hb
    have := Nat.eq_of_beq_eq_true hb
    subst this
    cases hg
    exact delete_ok C.mixed (bytes := 64) (by rw [← del_eq]; exact k_slices_Delete_Obj C)
  · cases hg
theorem gp {g : Nat} {ps : List PV} {own : Own} {r : PV} (h : OkC P G g ps own r) : OkC P GP g ps own r := by
  intro w I vs hb hg ha
  exact h w I vs hb ⟨hg.glob, fun _ _ h => by cases h⟩ ha
theorem pg (C : Laid P) {g : Nat} {ps : List PV} {own : Own} {r : PV} (h : OkC P GP g ps own r) : OkC P G g ps own r := by
  intro w I vs hb hg ha
  exact h w I vs hb ⟨hg.glob, gp_prim C⟩ ha
theorem gp_fn (C : Laid P) {g : Nat} {c : RFn} {ps : List PV} {r : PV} (hk : chkFn P g c = true) (hl : ps.length = c.nparams) (h : fnV GP (OkC P GP) noX noT noT 0 c ps r) : OkC P GP g ps [] r :=
  ok_of_fnV C.mixed hk (fun _ _ h => by cases h) (fun _ _ h => by cases h) (fun _ _ h => by cases h) hl h
theorem ok_clone (C : Laid P) (x : Ob) (l : List Ob) (hl : l.length ≤ 1000000) : OkC P G n_slices_Clone_Obj [.sl 7 (List.map encO (x :: l))] [(0, 0)] (.sl 7 (List.map encO (x :: l))) := by
  refine ok_of_fnO C.mixed (k_slices_Clone_Obj C) (ext := noX) (fun _ _ h => by cases h) (tab := noT) (tabI := noT) (d := 0) (fun _ _ h => by cases h) (fun _ _ h => by cases h) rfl ?_
  repeat' (conv => whnf
           first
             | (with_reducible refine sC (by kernel_rfl) ?_)
             | ((first | with_reducible refine sB ?_ | with_reducible refine sG0 ?_ | with_reducible refine sG1 ?_ | refine sP (by rfl) ?_); first | refine oT ?_ | refine oF ?_ | (refine Or.inr (Or.inr ⟨fun hsp => ?_, fun hsp => ?_⟩) <;> (try simp only [eqO, Ob.eta, Cl.eta, tt_true, tt_false, decide_eq_true_eq, decide_eq_false_iff_not, beq_iff_eq, beq_eq_false_iff_ne, bne_iff_ne, ne_eq, Bool.not_eq_true, Bool.not_eq_false, Bool.not_eq_eq_eq_not, Bool.not_true, Bool.not_false, Decidable.not_not, Int.not_lt, Int.not_le, gt_iff_lt, ge_iff_le, bne_eq_false_iff_eq] at hsp) <;> try subst hsp))
             | refine sS (append_oM (f := encO) (l := ([] : List Ob)) (x' := x :: l) (by rfl) (by rfl) (by rfl) (by first | exact prows_pv | exact prows_fsl | exact prows_own (by rfl) (by rfl)) (by rfl) (by simp only [List.length_cons, List.length_nil]; omega)) ?_
             | fail)
  all_goals (conv => whnf)
  refine ⟨20, [], ?_, ?_⟩
  · show some [AV.own 20 0 (([] : List Ob).length + (x :: l).length)] = _
    simp
  · rfl
theorem idx_ge {k : Ob} {l : List Ob} (h : 0 ≤ idxFrom k 0 l) : ∃ i : Nat, idxFrom k 0 l = (i : Int) ∧ i < l.length := by
  rcases idx_lt k l 0 with h1 | ⟨h1, h2⟩
  · omega
  · exact ⟨(idxFrom k 0 l).toNat, by omega, by omega⟩
/-- A dictionary without the pair at an index. -/
def remAt (c : Cl) (i : Nat) : Cl := { c with keys := c.keys.eraseIdx i, vals := c.vals.eraseIdx i }


set_option maxHeartbeats 2000000 in
set_option maxRecDepth 100000 in
theorem ok_heap_Remove_gp (C : Laid P) (h : List Cl) (d k : Ob) (hs : small h) (hd : d.n < 9223372036854775808) (hv : vErr h d [9] = 0) (i : Nat) (hi : idxFrom k 0 (cellAt h d).keys = (i : Int)) (hik : i < (cellAt h d).keys.length) (hiv : i < (cellAt h d).vals.length) : OkC P GP n_heap_Remove [.sl 7 (List.map encC h), aO d, aO k] [] (.tup [.sl 7 (List.map encC (h.set d.ref.toNat (remAt (cellAt h d) i))), pI 0]) := by
  refine gp_fn C (k_heap_Remove C) rfl ?_
  obtain ⟨⟨hr1, hr2⟩, ⟨hf1, hf2, hf3⟩, hkk, hcc⟩ := view_facts hv
  have hk9 : d.kind = 9 := by simpa using hkk
  obtain ⟨hc3, hc4, hc5⟩ := hcc.resolve_left (by rw [hk9]; decide)
  obtain ⟨hm1, hm2, hm3, hm4⟩ := small_at hs d
  have hh := hs.1
  have hwi : IntKind.i64.wrap ((i : Int) + 1) = ((i + 1 : Nat) : Int) := by rw [wrap_small (by omega) (by omega)]; omega
  have hx := ok_slices_Index_Obj C (cellAt h d).keys k (by omega)
  rw [hi] at hx
  have hw := ok_heap_view_with C h d (remAt (cellAt h d) i) hr1 (by omega) hh
  have hck : ∃ x l, (cellAt h d).keys = x :: l := by
    cases hq : (cellAt h d).keys with
    | nil => rw [hq] at hik; exact absurd hik (by simp)
    | cons x l => exact ⟨x, l, rfl⟩
  have hcv : ∃ x l, (cellAt h d).vals = x :: l := by
    cases hq : (cellAt h d).vals with
    | nil => rw [hq] at hiv; exact absurd hiv (by simp)
    | cons x l => exact ⟨x, l, rfl⟩
  have kk : OkC P G n_slices_Clone_Obj [.sl 7 (List.map encO (cellAt h d).keys)] [(0, 0)] (.sl 7 (List.map encO (cellAt h d).keys)) := by
    obtain ⟨x, l, e⟩ := hck
    rw [e] at hm1
    rw [e]; exact ok_clone C x l (by simp at hm1; omega)
  have kv : OkC P G n_slices_Clone_Obj [.sl 7 (List.map encO (cellAt h d).vals)] [(0, 0)] (.sl 7 (List.map encO (cellAt h d).vals)) := by
    obtain ⟨x, l, e⟩ := hcv
    rw [e] at hm2
    rw [e]; exact ok_clone C x l (by simp at hm2; omega)
  repeat' (conv => whnf
           first
             | (with_reducible refine sC (by kernel_rfl) ?_)
             | ((first | with_reducible refine sB ?_ | with_reducible refine sG0 ?_ | with_reducible refine sG1 ?_ | refine sP (by rfl) ?_); first | refine oT ?_ | refine oF ?_ | (refine Or.inr (Or.inr ⟨fun hsp => ?_, fun hsp => ?_⟩) <;> (try simp only [eqO, Ob.eta, Cl.eta, tt_true, tt_false, decide_eq_true_eq, decide_eq_false_iff_not, beq_iff_eq, beq_eq_false_iff_ne, bne_iff_ne, ne_eq, Bool.not_eq_true, Bool.not_eq_false, Bool.not_eq_eq_eq_not, Bool.not_true, Bool.not_false, Decidable.not_not, Int.not_lt, Int.not_le, gt_iff_lt, ge_iff_le, bne_eq_false_iff_eq, List.length_map] at hsp) <;> try subst hsp))
             | refine ⟨_, _, gp (ok_heap_viewOf C _ d [9] (by assumption) (by decide) (by assumption)), ?_⟩
             | refine ⟨_, _, gp (ok_heap_view_cell C h d hr1 (by omega)), ?_⟩
             | refine ⟨_, _, gp (hx), ?_⟩
             | refine ⟨_, _, gp (kk), ?_⟩
             | refine ⟨_, _, gp (kv), ?_⟩
             | refine ⟨_, _, (by rw [del_rows (f := encO) (l := (cellAt h d).keys) (n := (List.map encO (cellAt h d).keys).length) (by simp only [List.length_map]) (by simp only [List.length_map]; exact hik), del_rows (f := encO) (l := (cellAt h d).vals) (n := (List.map encO (cellAt h d).vals).length) (by simp only [List.length_map]) (by simp only [List.length_map]; exact hiv)]; exact gp hw), ?_⟩
             | refine sD (delete_at (i := i) (j := i + 1) (by rfl) (by rfl) (by rfl) hwi (by rfl) (by omega) (by simp only [List.length_map]; omega) (by rfl)) ?_
             | fail)
  all_goals (conv => whnf)
  all_goals exact PV.le.refl _

end Go.Ab.Td
