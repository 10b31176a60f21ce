/- Reading: Items, Len, Interval. Under: nothing. -/
import Derived.Test.YtngmifmcohmfmaaDoorTdRK
import Derived.Test.YtngmifmcohmfmaaDoorTdEr
namespace Go.Ab.Td
open Go Go.Ab
variable {P : Program}
set_option linter.unusedSimpArgs false
attribute [local irreducible] compat
theorem vfacts78 {h : List Cl} {o : Ob} (hv : vErr h o [7, 8] = 0) : (0 ≤ o.ref ∧ o.ref < h.length) ∧ (0 ≤ o.off ∧ 0 ≤ o.len ∧ o.off + o.len ≤ 1000) ∧ o.off + o.len ≤ (cellAt h o).items.length := by
  obtain ⟨⟨hr1, hr2⟩, ⟨hf1, hf2, hf3⟩, hk, hc⟩ := view_facts hv
  have hk7 : o.kind = 7 ∨ o.kind = 8 := by simpa using hk
  have hck : cellK o.kind = 2 := by unfold cellK; rw [if_neg (by omega), if_pos hk7]
  obtain ⟨hc3, hc4, hc5⟩ := hc.resolve_left (by rw [hck]; decide)
  refine ⟨⟨hr1, by omega⟩, ⟨hf1, hf2, hf3⟩, ?_⟩
  rcases hc5 with h5 | h5 | h5
  · omega
  · omega
  · rw [hck] at hc4
    simpa [Cl.length, hc4] using h5


set_option maxHeartbeats 1000000 in
set_option maxRecDepth 100000 in
theorem ok_heap_Items (C : Laid P) (h : List Cl) (o : Ob) (ho : o.n < 9223372036854775808) (hv : vErr h o [7, 8] = 0) : OkC P G n_heap_Items [.sl 7 (List.map encC h), aO o] [] (.tup [.sl 7 (List.map encO (subI h o)), pI 0]) := by
  refine ok_fn C (k_heap_Items C) rfl ?_
  obtain ⟨⟨hr1, hr2⟩, ⟨hf1, hf2, hf3⟩, hc6⟩ := vfacts78 hv
  have hw : IntKind.i64.wrap (o.off + o.len) = o.off + o.len := wrap_small (by omega) (by omega)
  repeat' (conv => whnf
           first
             | (with_reducible refine sC (by kernel_rfl) ?_)
             | ((first | with_reducible refine sB ?_ | with_reducible refine sG0 ?_ | with_reducible refine sG1 ?_ | refine sP (by rfl) ?_); first | refine oT ?_ | refine oF ?_ | (refine Or.inr (Or.inr ⟨fun hsp => ?_, fun hsp => ?_⟩) <;> (try simp only [eqO, Ob.eta, Cl.eta, tt_true, tt_false, decide_eq_true_eq, decide_eq_false_iff_not, beq_iff_eq, beq_eq_false_iff_ne, bne_iff_ne, ne_eq, Bool.not_eq_true, Bool.not_eq_false, Bool.not_eq_eq_eq_not, Bool.not_true, Bool.not_false, Decidable.not_not, Int.not_lt, Int.not_le, gt_iff_lt, ge_iff_le, bne_eq_false_iff_eq, List.length_map] at hsp) <;> try subst hsp))
             | refine ⟨_, _, ok_heap_viewOf C _ o [7, 8] (by assumption) (by decide) (by assumption), ?_⟩
             | refine ⟨_, _, ok_heap_view_cell C _ o (by omega) (by omega), ?_⟩
             | refine sS (slice_mM (l := (cellAt h o).items) (f := encO) (by rfl) (by rfl) (by rfl) (by rfl) (by omega) (by rw [hw]; omega) (by rfl) (by rw [hw]; omega)) ?_
             | fail)
  all_goals (conv => whnf)
  all_goals (rw [hw]; exact PV.le.refl _)
open Classical in
/-- A part of an object. -/
noncomputable def intvl (o : Ob) (off n : Int) : Ob × Int :=
  if ¬ o.right then (ob0, 2) else if o.kind ≠ 6 ∧ o.kind ≠ 7 ∧ o.kind ≠ 8 then (ob0, 22)
  else if off < 0 ∨ n < 0 ∨ off > o.len ∨ n > IntKind.i64.wrap (o.len - off) then (ob0, 23) else ({ o with off := IntKind.i64.wrap (o.off + off), len := n }, 0)


set_option maxHeartbeats 1000000 in
set_option maxRecDepth 100000 in
theorem ok_heap_Interval (C : Laid P) (o : Ob) (off n : Int) (ho : o.n < 9223372036854775808) : OkC P G n_heap_Interval [aO o, pI off, pI n] [] (.tup [aO (intvl o off n).1, pI (intvl o off n).2]) := by
  refine ok_fn C (k_heap_Interval C) rfl ?_
  repeat' (conv => whnf
           first
             | (with_reducible refine sC (by kernel_rfl) ?_)
             | ((first | with_reducible refine sB ?_ | with_reducible refine sG0 ?_ | with_reducible refine sG1 ?_ | refine sP (by rfl) ?_); first | refine oT ?_ | refine oF ?_ | (refine Or.inr (Or.inr ⟨fun hsp => ?_, fun hsp => ?_⟩) <;> (try simp only [eqO, Ob.eta, Cl.eta, tt_true, tt_false, decide_eq_true_eq, decide_eq_false_iff_not, beq_iff_eq, beq_eq_false_iff_ne, bne_iff_ne, ne_eq, Bool.not_eq_true, Bool.not_eq_false, Bool.not_eq_eq_eq_not, Bool.not_true, Bool.not_false, Decidable.not_not, Int.not_lt, Int.not_le, gt_iff_lt, ge_iff_le, bne_eq_false_iff_eq, ck_eq0, ck_ne0] at hsp) <;> try subst hsp))
             | refine ⟨_, _, ok_object_Check C o ho, ?_⟩
             | fail)
  all_goals (conv => whnf)
  all_goals ((repeat' (first | (with_reducible exact PV.le.refl _) | exact PV.le.emp _ | exact LeL.nil | (with_reducible refine le_tup ?_) | (with_reducible refine le_agg ?_) | (refine LeL.cons ?_ ?_) | (with_reducible refine le_int ?_) | (with_reducible refine le_str ?_) | (with_reducible refine tt_T ?_) | (with_reducible refine tt_F ?_) | (with_reducible refine le_sle ?_) | (refine tt_B ?_))) <;> first | rfl | exact PV.le.refl _ | ((try simp only [Ob.eta, Cl.eta, List.length_map] at *); first | rfl | (refine le_of_eq ?_; congr 1; grind [intvl, ob0]) | grind [intvl, ob0]))
set_option maxHeartbeats 1000000 in
set_option maxRecDepth 100000 in
theorem ok_ref11_sameObjs (C : Laid P) (l1 l2 : List Ob) (hl : l1.length < 2 ^ 62) : OkC P G n_ref11_sameObjs [.sl 7 (List.map encO l1), .sl 7 (List.map encO l2)] [] (.bool (tt (l1 = l2))) := by
  refine ok_fn C (k_ref11_sameObjs C) rfl ?_
  repeat' (conv => whnf
           first
             | (with_reducible refine sC (by kernel_rfl) ?_)
             | ((first | with_reducible refine sB ?_ | with_reducible refine sG0 ?_ | with_reducible refine sG1 ?_ | refine sP (by rfl) ?_); first | refine oT ?_ | refine oF ?_ | (refine Or.inr (Or.inr ⟨fun hsp => ?_, fun hsp => ?_⟩) <;> (try simp only [eqO, Ob.eta, Cl.eta, tt_true, tt_false, decide_eq_true_eq, decide_eq_false_iff_not, beq_iff_eq, beq_eq_false_iff_ne, bne_iff_ne, ne_eq, Bool.not_eq_true, Bool.not_eq_false, Bool.not_eq_eq_eq_not, Bool.not_true, Bool.not_false, Decidable.not_not, Int.not_lt, Int.not_le, gt_iff_lt, ge_iff_le, bne_eq_false_iff_eq, List.length_map] at hsp) <;> try subst hsp))
             | fail)
  all_goals (conv => whnf)
  all_goals try (exact tt_F (by intro e; subst e; simp_all))
  intro X hX hW
  refine loopI hX (fun st (a : Nat) => st.upd [(5, .pv (pI (a : Int)))] []) (fun a m => a + m = l1.length ∧ (l1.length = l2.length ∧ ((l1 = l2) = (l1.drop a = l2.drop a)))) 0 l1.length (by (conv => whnf); first | done | rfl) (by simp; omega) ?_
  intro m i ih hI
  rcases at_or l1 i with ⟨x, hlt, hx⟩ | hge
  · have hrow := row_map (f := encO) hx
    have hd := drop_at hx
    have hI2 := hI.2
    rw [hd] at hI2
    obtain ⟨y, hy⟩ : ∃ y, l2[i]? = some y := ⟨_, List.getElem?_eq_getElem (by omega)⟩
    have hrow2 := row_map (f := encO) hy
    have hd2 := drop_at hy
    rw [hd2, List.cons.injEq] at hI2
    repeat' (conv => whnf
             first
               | (with_reducible refine sC (by kernel_rfl) ?_)
               | ((first | with_reducible refine sB ?_ | with_reducible refine sG0 ?_ | with_reducible refine sG1 ?_ | refine sP (by rfl) ?_); first | refine oT ?_ | refine oF ?_ | (refine Or.inr (Or.inr ⟨fun hsp => ?_, fun hsp => ?_⟩) <;> (try simp only [eqO, Ob.eta, Cl.eta, tt_true, tt_false, decide_eq_true_eq, decide_eq_false_iff_not, beq_iff_eq, beq_eq_false_iff_ne, bne_iff_ne, ne_eq, Bool.not_eq_true, Bool.not_eq_false, Bool.not_eq_eq_eq_not, Bool.not_true, Bool.not_false, Decidable.not_not, Int.not_lt, Int.not_le, gt_iff_lt, ge_iff_le, bne_eq_false_iff_eq, List.length_map] at hsp) <;> try subst hsp))
               | refine sS (iaddr_at (by rfl) (by rfl) (by omega) hrow) ?_
               | refine sS (iaddr_at (by rfl) (by rfl) (by omega) hrow2) ?_
               | fail)
    all_goals (conv => whnf)
    all_goals first
      | (refine ih (m - 1) (i + 1) _ (by omega) ⟨by (try dsimp only); omega, ?_⟩ (by (conv => whnf); first | done | rfl | (simp (disch := omega) only [wrap_succ])))
      | (with_reducible first | refine le_int ?_ | refine tt_T ?_ | refine tt_F ?_)
      | (refine tt_B ?_; simp only [eqO, Ob.eta, Cl.eta, tt_true, tt_false, decide_eq_true_eq, decide_eq_false_iff_not, beq_iff_eq, beq_eq_false_iff_ne, bne_iff_ne, ne_eq, Bool.not_eq_true, Bool.not_eq_false, Bool.not_eq_eq_eq_not, Bool.not_true, Bool.not_false, Decidable.not_not, Int.not_lt, Int.not_le, gt_iff_lt, ge_iff_le, bne_eq_false_iff_eq])
      | refine le_of_eq ?_
    all_goals (first | (have hd2 : l2.drop i = [] := List.drop_eq_nil_of_le (by omega); grind) | grind)
  · have hd : l1.drop i = [] := List.drop_eq_nil_of_le hge
    have hI2 := hI.2
    rw [hd] at hI2
    repeat' (conv => whnf
             first
               | (with_reducible refine sC (by kernel_rfl) ?_)
               | ((first | with_reducible refine sB ?_ | with_reducible refine sG0 ?_ | with_reducible refine sG1 ?_ | refine sP (by rfl) ?_); first | refine oT ?_ | refine oF ?_ | (refine Or.inr (Or.inr ⟨fun hsp => ?_, fun hsp => ?_⟩) <;> (try simp only [eqO, Ob.eta, Cl.eta, tt_true, tt_false, decide_eq_true_eq, decide_eq_false_iff_not, beq_iff_eq, beq_eq_false_iff_ne, bne_iff_ne, ne_eq, Bool.not_eq_true, Bool.not_eq_false, Bool.not_eq_eq_eq_not, Bool.not_true, Bool.not_false, Decidable.not_not, Int.not_lt, Int.not_le, gt_iff_lt, ge_iff_le, bne_eq_false_iff_eq, List.length_map] at hsp) <;> try subst hsp))
               | fail)
    all_goals (conv => whnf)
    all_goals first
      | (with_reducible first | refine le_int ?_ | refine tt_T ?_ | refine tt_F ?_)
      | (refine tt_B ?_; simp only [eqO, Ob.eta, Cl.eta, tt_true, tt_false, decide_eq_true_eq, decide_eq_false_iff_not, beq_iff_eq, beq_eq_false_iff_ne, bne_iff_ne, ne_eq, Bool.not_eq_true, Bool.not_eq_false, Bool.not_eq_eq_eq_not, Bool.not_true, Bool.not_false, Decidable.not_not, Int.not_lt, Int.not_le, gt_iff_lt, ge_iff_le, bne_eq_false_iff_eq])
      | refine le_of_eq ?_
    all_goals (first | (have hd2 : l2.drop i = [] := List.drop_eq_nil_of_le (by omega); grind) | grind)
end Go.Ab.Td
