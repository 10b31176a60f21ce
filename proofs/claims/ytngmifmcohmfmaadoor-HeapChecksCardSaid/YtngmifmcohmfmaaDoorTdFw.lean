/- The laws of heaps: few, either, objs. Under: nothing. -/
import Derived.Test.YtngmifmcohmfmaaDoorTdRL
import Derived.Test.YtngmifmcohmfmaaDoorTdFo
import Derived.Test.YtngmifmcohmfmaaDoorAbGl
import Derived.Test.YtngmifmcohmfmaaDoorAbG6
namespace Go.Ab.Td
open Go Go.Ab
variable {P : Program}
set_option linter.unusedSimpArgs false
attribute [local irreducible] compat
/-- A cell with limited lists. -/
def cutC (c : Cl) : Cl := { c with bytes := c.bytes.take 4100, items := c.items.take 20, keys := c.keys.take 20, vals := c.vals.take 20 }
/-- A heap with at most twelve cells with limited lists. -/
def fewL (x : List Cl) : List Cl := (x.take 12).map cutC


set_option maxHeartbeats 1000000 in
set_option maxRecDepth 100000 in
theorem ok_law11_few (C : Laid P) (l0 : List Cl) : OkC P G n_law11_few [.sl 7 (List.map encC l0)] [] (.sl 7 (List.map encC (fewL l0))) := by
  refine ok_fn C (k_law11_few C) rfl ?_
  have h12 : (l0.take (12 : Int).toNat).length ≤ 12 := by rw [show (12 : Int).toNat = 12 from rfl, List.length_take]; omega
  repeat' (conv => whnf
           first
             | (with_reducible refine sC (by kernel_rfl) ?_)
             | ((first | with_reducible refine sB ?_ | with_reducible refine sG0 ?_ | with_reducible refine sG1 ?_ | refine sP (by rfl) ?_); first | refine oT ?_ | refine oF ?_ | (refine Or.inr (Or.inr ⟨fun hsp => ?_, fun hsp => ?_⟩) <;> (try simp only [eqO, Ob.eta, Cl.eta, tt_true, tt_false, decide_eq_true_eq, decide_eq_false_iff_not, beq_iff_eq, beq_eq_false_iff_ne, bne_iff_ne, ne_eq, Bool.not_eq_true, Bool.not_eq_false, Bool.not_eq_eq_eq_not, Bool.not_true, Bool.not_false, Decidable.not_not, Int.not_lt, Int.not_le, gt_iff_lt, ge_iff_le, bne_eq_false_iff_eq, List.length_map] at hsp) <;> try subst hsp))
             | refine sS (slice_min (f := encC) (by rfl) (by rfl) (by decide)) ?_
             | refine sS (slice_min (f := encO) (by rfl) (by rfl) (by decide)) ?_
             | refine sS (sslice_min (by rfl) (by rfl) (by decide)) ?_
             | refine sS (append_fM  (by rfl) (by first | exact prows_pv | exact prows_fsl | exact prows_own (by rfl) (by rfl)) (by rfl) (by (try simp only [List.length_map, List.length_append, List.length_take, List.length_drop, List.length_cons, List.length_nil, List.length_replicate, List.length_set, Int.toNat_natCast]); omega)) ?_
             | refine sS (append_fM (f := encO) (x' := [⟨_, _, _, _, _, _, _⟩]) (by rfl) (by first | exact prows_pv | exact prows_fsl | exact prows_own (by rfl) (by rfl)) (by rfl) (by (try simp only [List.length_map, List.length_append, List.length_take, List.length_drop, List.length_cons, List.length_nil, List.length_replicate, List.length_set, Int.toNat_natCast]); omega)) ?_
             | refine sS (append_fM (f := encC) (x' := [⟨_, _, _, _, _, _, _⟩]) (by rfl) (by first | exact prows_pv | exact prows_fsl | exact prows_own (by rfl) (by rfl)) (by rfl) (by (try simp only [List.length_map, List.length_append, List.length_take, List.length_drop, List.length_cons, List.length_nil, List.length_replicate, List.length_set, Int.toNat_natCast]); omega)) ?_
             | refine sS (append_oM  (by rfl) (by rfl) (by (try simp only [List.length_map, List.length_append, List.length_take, List.length_drop, List.length_cons, List.length_nil, List.length_replicate, List.length_set, Int.toNat_natCast]); omega) (by first | exact prows_pv | exact prows_fsl | exact prows_own (by rfl) (by rfl)) (by rfl) (by (try simp only [List.length_map, List.length_append, List.length_take, List.length_drop, List.length_cons, List.length_nil, List.length_replicate, List.length_set, Int.toNat_natCast]); omega)) ?_
             | refine sS (append_oM (f := encO) (x' := [⟨_, _, _, _, _, _, _⟩]) (by rfl) (by rfl) (by (try simp only [List.length_map, List.length_append, List.length_take, List.length_drop, List.length_cons, List.length_nil, List.length_replicate, List.length_set, Int.toNat_natCast]); omega) (by first | exact prows_pv | exact prows_fsl | exact prows_own (by rfl) (by rfl)) (by rfl) (by (try simp only [List.length_map, List.length_append, List.length_take, List.length_drop, List.length_cons, List.length_nil, List.length_replicate, List.length_set, Int.toNat_natCast]); omega)) ?_
             | refine sS (append_oM (f := encC) (x' := [⟨_, _, _, _, _, _, _⟩]) (by rfl) (by rfl) (by (try simp only [List.length_map, List.length_append, List.length_take, List.length_drop, List.length_cons, List.length_nil, List.length_replicate, List.length_set, Int.toNat_natCast]); omega) (by first | exact prows_pv | exact prows_fsl | exact prows_own (by rfl) (by rfl)) (by rfl) (by (try simp only [List.length_map, List.length_append, List.length_take, List.length_drop, List.length_cons, List.length_nil, List.length_replicate, List.length_set, Int.toNat_natCast]); omega)) ?_
             | refine sS (append_eM  (by rfl) (by first | exact prows_pv | exact prows_fsl | exact prows_own (by rfl) (by rfl)) (by rfl) (by (try simp only [List.length_map, List.length_append, List.length_take, List.length_drop, List.length_cons, List.length_nil, List.length_replicate, List.length_set, Int.toNat_natCast]); omega)) ?_
             | refine sS (append_eM (f := encO) (x' := [⟨_, _, _, _, _, _, _⟩]) (by rfl) (by first | exact prows_pv | exact prows_fsl | exact prows_own (by rfl) (by rfl)) (by rfl) (by (try simp only [List.length_map, List.length_append, List.length_take, List.length_drop, List.length_cons, List.length_nil, List.length_replicate, List.length_set, Int.toNat_natCast]); omega)) ?_
             | refine sS (append_eM (f := encC) (x' := [⟨_, _, _, _, _, _, _⟩]) (by rfl) (by first | exact prows_pv | exact prows_fsl | exact prows_own (by rfl) (by rfl)) (by rfl) (by (try simp only [List.length_map, List.length_append, List.length_take, List.length_drop, List.length_cons, List.length_nil, List.length_replicate, List.length_set, Int.toNat_natCast]); omega)) ?_
             | refine sS (slice_mM (by rfl) (by rfl) (by rfl) (by rfl) (by (try simp only [List.length_map, List.length_append, List.length_take, List.length_drop, List.length_cons, List.length_nil, List.length_replicate, List.length_set, Int.toNat_natCast]); omega) (by (try simp only [List.length_map, List.length_append, List.length_take, List.length_drop, List.length_cons, List.length_nil, List.length_replicate, List.length_set, Int.toNat_natCast]); omega) (by first | rfl | ((try simp only [List.length_map, List.length_append, List.length_take, List.length_drop, List.length_cons, List.length_nil, List.length_replicate, List.length_set, Int.toNat_natCast]); omega)) (by (try simp only [List.length_map, List.length_append, List.length_take, List.length_drop, List.length_cons, List.length_nil, List.length_replicate, List.length_set, Int.toNat_natCast]); omega)) ?_
             | refine sS (slice_M (by rfl) (by rfl) (by rfl) (by (try simp only [List.length_map, List.length_append, List.length_take, List.length_drop, List.length_cons, List.length_nil, List.length_replicate, List.length_set, Int.toNat_natCast]); omega) (by (try simp only [List.length_map, List.length_append, List.length_take, List.length_drop, List.length_cons, List.length_nil, List.length_replicate, List.length_set, Int.toNat_natCast]); omega) (by (try simp only [List.length_map, List.length_append, List.length_take, List.length_drop, List.length_cons, List.length_nil, List.length_replicate, List.length_set, Int.toNat_natCast]); omega)) ?_
             | refine sS (slice_fM (by rfl) (by rfl) (by rfl) (by (try simp only [List.length_map, List.length_append, List.length_take, List.length_drop, List.length_cons, List.length_nil, List.length_replicate, List.length_set, Int.toNat_natCast]); omega) (by (try simp only [List.length_map, List.length_append, List.length_take, List.length_drop, List.length_cons, List.length_nil, List.length_replicate, List.length_set, Int.toNat_natCast]); omega) (by (try simp only [List.length_map, List.length_append, List.length_take, List.length_drop, List.length_cons, List.length_nil, List.length_replicate, List.length_set, Int.toNat_natCast]); omega)) ?_
             | refine sS (sslice_lh (by rfl) (by rfl) (by rfl) (by (try simp only [List.length_map, List.length_append, List.length_take, List.length_drop, List.length_cons, List.length_nil, List.length_replicate, List.length_set, Int.toNat_natCast]); omega) (by (try simp only [List.length_map, List.length_append, List.length_take, List.length_drop, List.length_cons, List.length_nil, List.length_replicate, List.length_set, Int.toNat_natCast]); omega) (by (try simp only [List.length_map, List.length_append, List.length_take, List.length_drop, List.length_cons, List.length_nil, List.length_replicate, List.length_set, Int.toNat_natCast]); omega)) ?_
             | refine sS (iaddr_at (by rfl) (by rfl) (by omega) (row_at (d := cl0) (by omega) (by omega))) ?_
             | refine sS (iaddr_at (by rfl) (by rfl) (by omega) (row_at (d := ob0) (by omega) (by omega))) ?_
             | refine sS (rem_at (by rfl) (by rfl) (by omega)) ?_
             | refine sS (quo_at (by rfl) (by rfl) (by omega)) ?_
             | fail)
  all_goals (conv => whnf)
  intro X hX hW
  refine hW _ _ (.tmp 3 7 (by decide) (by rfl)) ?_
  refine loopI hX (fun st (a : Nat × List Cl) => st.upd [(3, .own 36 0 a.2.length), (12, .pv (pI (a.1 : Int)))] [(36, .arr 7 (a.2.map encC) false)]) (fun a m => a.1 + m = (l0.take (12 : Int).toNat).length ∧ (a.2.length = a.1 ∧ (l0.take (12 : Int).toNat).map cutC = a.2 ++ ((l0.take (12 : Int).toNat).drop a.1).map cutC)) (0, []) (l0.take (12 : Int).toNat).length (by (conv => whnf); first | done | rfl) (by simp) ?_
  intro m a ih hI
  rcases at_or (l0.take (12 : Int).toNat) a.1 with ⟨x, hlt, hx⟩ | hge
  · have hrow := row_map (f := encC) hx
    have hd := drop_at hx
    have hI2 := hI.2
    rw [hd] at hI2
    simp only [List.map_cons, List.map_nil, List.append_nil] at hI2
    repeat' (conv => whnf
             first
               | (with_reducible refine sC (by kernel_rfl) ?_)
               | ((first | with_reducible refine sB ?_ | with_reducible refine sG0 ?_ | with_reducible refine sG1 ?_ | refine sP (by rfl) ?_); first | refine oT ?_ | refine oF ?_ | (refine Or.inr (Or.inr ⟨fun hsp => ?_, fun hsp => ?_⟩) <;> (try simp only [eqO, Ob.eta, Cl.eta, tt_true, tt_false, decide_eq_true_eq, decide_eq_false_iff_not, beq_iff_eq, beq_eq_false_iff_ne, bne_iff_ne, ne_eq, Bool.not_eq_true, Bool.not_eq_false, Bool.not_eq_eq_eq_not, Bool.not_true, Bool.not_false, Decidable.not_not, Int.not_lt, Int.not_le, gt_iff_lt, ge_iff_le, bne_eq_false_iff_eq, List.length_map] at hsp) <;> try subst hsp))
               | refine sS (iaddr_at (by rfl) (by rfl) (by omega) hrow) ?_
               | refine sS (append_oM (f := encC) (x' := [cutC x]) (by rfl) (by rfl) (by rfl) (by first | exact prows_pv | exact prows_fsl | exact prows_own (by rfl) (by rfl)) (by rfl) (by (try simp only [List.length_map, List.length_append, List.length_take, List.length_drop, List.length_cons, List.length_nil, List.length_replicate, List.length_set, Int.toNat_natCast]); omega)) ?_
               | refine sS (slice_min (f := encC) (by rfl) (by rfl) (by decide)) ?_
               | refine sS (slice_min (f := encO) (by rfl) (by rfl) (by decide)) ?_
               | refine sS (sslice_min (by rfl) (by rfl) (by decide)) ?_
               | refine sS (append_fM  (by rfl) (by first | exact prows_pv | exact prows_fsl | exact prows_own (by rfl) (by rfl)) (by rfl) (by (try simp only [List.length_map, List.length_append, List.length_take, List.length_drop, List.length_cons, List.length_nil, List.length_replicate, List.length_set, Int.toNat_natCast]); omega)) ?_
               | refine sS (append_fM (f := encO) (x' := [⟨_, _, _, _, _, _, _⟩]) (by rfl) (by first | exact prows_pv | exact prows_fsl | exact prows_own (by rfl) (by rfl)) (by rfl) (by (try simp only [List.length_map, List.length_append, List.length_take, List.length_drop, List.length_cons, List.length_nil, List.length_replicate, List.length_set, Int.toNat_natCast]); omega)) ?_
               | refine sS (append_fM (f := encC) (x' := [⟨_, _, _, _, _, _, _⟩]) (by rfl) (by first | exact prows_pv | exact prows_fsl | exact prows_own (by rfl) (by rfl)) (by rfl) (by (try simp only [List.length_map, List.length_append, List.length_take, List.length_drop, List.length_cons, List.length_nil, List.length_replicate, List.length_set, Int.toNat_natCast]); omega)) ?_
               | refine sS (append_oM  (by rfl) (by rfl) (by (try simp only [List.length_map, List.length_append, List.length_take, List.length_drop, List.length_cons, List.length_nil, List.length_replicate, List.length_set, Int.toNat_natCast]); omega) (by first | exact prows_pv | exact prows_fsl | exact prows_own (by rfl) (by rfl)) (by rfl) (by (try simp only [List.length_map, List.length_append, List.length_take, List.length_drop, List.length_cons, List.length_nil, List.length_replicate, List.length_set, Int.toNat_natCast]); omega)) ?_
               | refine sS (append_oM (f := encO) (x' := [⟨_, _, _, _, _, _, _⟩]) (by rfl) (by rfl) (by (try simp only [List.length_map, List.length_append, List.length_take, List.length_drop, List.length_cons, List.length_nil, List.length_replicate, List.length_set, Int.toNat_natCast]); omega) (by first | exact prows_pv | exact prows_fsl | exact prows_own (by rfl) (by rfl)) (by rfl) (by (try simp only [List.length_map, List.length_append, List.length_take, List.length_drop, List.length_cons, List.length_nil, List.length_replicate, List.length_set, Int.toNat_natCast]); omega)) ?_
               | refine sS (append_oM (f := encC) (x' := [⟨_, _, _, _, _, _, _⟩]) (by rfl) (by rfl) (by (try simp only [List.length_map, List.length_append, List.length_take, List.length_drop, List.length_cons, List.length_nil, List.length_replicate, List.length_set, Int.toNat_natCast]); omega) (by first | exact prows_pv | exact prows_fsl | exact prows_own (by rfl) (by rfl)) (by rfl) (by (try simp only [List.length_map, List.length_append, List.length_take, List.length_drop, List.length_cons, List.length_nil, List.length_replicate, List.length_set, Int.toNat_natCast]); omega)) ?_
               | refine sS (append_eM  (by rfl) (by first | exact prows_pv | exact prows_fsl | exact prows_own (by rfl) (by rfl)) (by rfl) (by (try simp only [List.length_map, List.length_append, List.length_take, List.length_drop, List.length_cons, List.length_nil, List.length_replicate, List.length_set, Int.toNat_natCast]); omega)) ?_
               | refine sS (append_eM (f := encO) (x' := [⟨_, _, _, _, _, _, _⟩]) (by rfl) (by first | exact prows_pv | exact prows_fsl | exact prows_own (by rfl) (by rfl)) (by rfl) (by (try simp only [List.length_map, List.length_append, List.length_take, List.length_drop, List.length_cons, List.length_nil, List.length_replicate, List.length_set, Int.toNat_natCast]); omega)) ?_
               | refine sS (append_eM (f := encC) (x' := [⟨_, _, _, _, _, _, _⟩]) (by rfl) (by first | exact prows_pv | exact prows_fsl | exact prows_own (by rfl) (by rfl)) (by rfl) (by (try simp only [List.length_map, List.length_append, List.length_take, List.length_drop, List.length_cons, List.length_nil, List.length_replicate, List.length_set, Int.toNat_natCast]); omega)) ?_
               | refine sS (slice_mM (by rfl) (by rfl) (by rfl) (by rfl) (by (try simp only [List.length_map, List.length_append, List.length_take, List.length_drop, List.length_cons, List.length_nil, List.length_replicate, List.length_set, Int.toNat_natCast]); omega) (by (try simp only [List.length_map, List.length_append, List.length_take, List.length_drop, List.length_cons, List.length_nil, List.length_replicate, List.length_set, Int.toNat_natCast]); omega) (by first | rfl | ((try simp only [List.length_map, List.length_append, List.length_take, List.length_drop, List.length_cons, List.length_nil, List.length_replicate, List.length_set, Int.toNat_natCast]); omega)) (by (try simp only [List.length_map, List.length_append, List.length_take, List.length_drop, List.length_cons, List.length_nil, List.length_replicate, List.length_set, Int.toNat_natCast]); omega)) ?_
               | refine sS (slice_M (by rfl) (by rfl) (by rfl) (by (try simp only [List.length_map, List.length_append, List.length_take, List.length_drop, List.length_cons, List.length_nil, List.length_replicate, List.length_set, Int.toNat_natCast]); omega) (by (try simp only [List.length_map, List.length_append, List.length_take, List.length_drop, List.length_cons, List.length_nil, List.length_replicate, List.length_set, Int.toNat_natCast]); omega) (by (try simp only [List.length_map, List.length_append, List.length_take, List.length_drop, List.length_cons, List.length_nil, List.length_replicate, List.length_set, Int.toNat_natCast]); omega)) ?_
               | refine sS (slice_fM (by rfl) (by rfl) (by rfl) (by (try simp only [List.length_map, List.length_append, List.length_take, List.length_drop, List.length_cons, List.length_nil, List.length_replicate, List.length_set, Int.toNat_natCast]); omega) (by (try simp only [List.length_map, List.length_append, List.length_take, List.length_drop, List.length_cons, List.length_nil, List.length_replicate, List.length_set, Int.toNat_natCast]); omega) (by (try simp only [List.length_map, List.length_append, List.length_take, List.length_drop, List.length_cons, List.length_nil, List.length_replicate, List.length_set, Int.toNat_natCast]); omega)) ?_
               | refine sS (sslice_lh (by rfl) (by rfl) (by rfl) (by (try simp only [List.length_map, List.length_append, List.length_take, List.length_drop, List.length_cons, List.length_nil, List.length_replicate, List.length_set, Int.toNat_natCast]); omega) (by (try simp only [List.length_map, List.length_append, List.length_take, List.length_drop, List.length_cons, List.length_nil, List.length_replicate, List.length_set, Int.toNat_natCast]); omega) (by (try simp only [List.length_map, List.length_append, List.length_take, List.length_drop, List.length_cons, List.length_nil, List.length_replicate, List.length_set, Int.toNat_natCast]); omega)) ?_
               | refine sS (iaddr_at (by rfl) (by rfl) (by omega) (row_at (d := cl0) (by omega) (by omega))) ?_
               | refine sS (iaddr_at (by rfl) (by rfl) (by omega) (row_at (d := ob0) (by omega) (by omega))) ?_
               | refine sS (rem_at (by rfl) (by rfl) (by omega)) ?_
               | refine sS (quo_at (by rfl) (by rfl) (by omega)) ?_
               | fail)
    all_goals (conv => whnf)
    all_goals first
      | (refine ih (m - 1) (a.1 + 1, a.2 ++ [cutC x]) _ (by omega) ⟨by (try dsimp only); omega, ?_⟩ (by (conv => whnf); first | done | rfl | (simp (disch := omega) only [wrap_succ, List.length_append, List.length_cons, List.length_nil, List.map_append, List.map_cons, List.map_nil])))
      | (with_reducible first | refine le_int ?_ | refine tt_T ?_ | refine tt_F ?_)
      | (refine tt_B ?_; simp only [eqO, Ob.eta, Cl.eta, tt_true, tt_false, decide_eq_true_eq, decide_eq_false_iff_not, beq_iff_eq, beq_eq_false_iff_ne, bne_iff_ne, ne_eq, Bool.not_eq_true, Bool.not_eq_false, Bool.not_eq_eq_eq_not, Bool.not_true, Bool.not_false, Decidable.not_not, Int.not_lt, Int.not_le, gt_iff_lt, ge_iff_le, bne_eq_false_iff_eq])
      | refine le_of_eq ?_
    all_goals (first | (congr 1; rw [List.drop_zero, List.take_of_length_le (by simp)]; congr 1; exact hI2.2.symm) | grind)
  · have hd : (l0.take (12 : Int).toNat).drop a.1 = [] := List.drop_eq_nil_of_le hge
    have hI2 := hI.2
    rw [hd] at hI2
    simp only [List.map_cons, List.map_nil, List.append_nil] at hI2
    repeat' (conv => whnf
             first
               | (with_reducible refine sC (by kernel_rfl) ?_)
               | ((first | with_reducible refine sB ?_ | with_reducible refine sG0 ?_ | with_reducible refine sG1 ?_ | refine sP (by rfl) ?_); first | refine oT ?_ | refine oF ?_ | (refine Or.inr (Or.inr ⟨fun hsp => ?_, fun hsp => ?_⟩) <;> (try simp only [eqO, Ob.eta, Cl.eta, tt_true, tt_false, decide_eq_true_eq, decide_eq_false_iff_not, beq_iff_eq, beq_eq_false_iff_ne, bne_iff_ne, ne_eq, Bool.not_eq_true, Bool.not_eq_false, Bool.not_eq_eq_eq_not, Bool.not_true, Bool.not_false, Decidable.not_not, Int.not_lt, Int.not_le, gt_iff_lt, ge_iff_le, bne_eq_false_iff_eq, List.length_map] at hsp) <;> try subst hsp))
               | fail)
    all_goals (conv => whnf)
    all_goals first
      | (with_reducible first | refine le_int ?_ | refine tt_T ?_ | refine tt_F ?_)
      | (refine tt_B ?_; simp only [eqO, Ob.eta, Cl.eta, tt_true, tt_false, decide_eq_true_eq, decide_eq_false_iff_not, beq_iff_eq, beq_eq_false_iff_ne, bne_iff_ne, ne_eq, Bool.not_eq_true, Bool.not_eq_false, Bool.not_eq_eq_eq_not, Bool.not_true, Bool.not_false, Decidable.not_not, Int.not_lt, Int.not_le, gt_iff_lt, ge_iff_le, bne_eq_false_iff_eq])
      | refine le_of_eq ?_
    all_goals (first | (congr 1; rw [List.drop_zero, List.take_of_length_le (by simp)]; congr 1; exact hI2.2.symm) | grind)

set_option maxHeartbeats 1000000 in
set_option maxRecDepth 100000 in
theorem ok_law11_either (C : Laid P) (x : List Cl) (cells ops dicts : List (List PV)) (h : List Cl) (kh : OkC P G n_ref11_Draft_Heap [.agg [.sl 5 cells, .sl 5 ops, .sl 1 dicts]] [] (slC h)) : OkC P G n_law11_either [.sl 7 (List.map encC x), .agg [.sl 5 cells, .sl 5 ops, .sl 1 dicts]] [] (.agg [.sl 7 (List.map encC (fewL x)), .sl 7 (List.map encC h)]) := by
  refine ok_fn C (k_law11_either C) rfl ?_
  repeat' (conv => whnf
           first
             | (with_reducible refine sC (by kernel_rfl) ?_)
             | ((first | with_reducible refine sB ?_ | with_reducible refine sG0 ?_ | with_reducible refine sG1 ?_ | refine sP (by rfl) ?_); first | refine oT ?_ | refine oF ?_ | (refine Or.inr (Or.inr ⟨fun hsp => ?_, fun hsp => ?_⟩) <;> (try simp only [eqO, Ob.eta, Cl.eta, tt_true, tt_false, decide_eq_true_eq, decide_eq_false_iff_not, beq_iff_eq, beq_eq_false_iff_ne, bne_iff_ne, ne_eq, Bool.not_eq_true, Bool.not_eq_false, Bool.not_eq_eq_eq_not, Bool.not_true, Bool.not_false, Decidable.not_not, Int.not_lt, Int.not_le, gt_iff_lt, ge_iff_le, bne_eq_false_iff_eq] at hsp) <;> try subst hsp))
             | refine ⟨_, _, ok_law11_few C x, ?_⟩
             | refine ⟨_, _, kh, ?_⟩
             | fail)
  all_goals (conv => whnf)
  all_goals (exact PV.le.refl _)

set_option maxHeartbeats 1000000 in
set_option maxRecDepth 100000 in
theorem ok_law11_objs (C : Laid P) (o : Ob) (w : Wd) (h : List Cl) (hsm : small h) : OkC P G n_law11_objs [aO o, .agg w.row, .sl 7 (List.map encC h)] [] (.agg (encO o ++ encO (objO h w.K w.A w.B w.N))) := by
  refine ok_fn C (k_law11_objs C) rfl ?_
  obtain ⟨K, A, B, N, S, hA, hB, hN⟩ := w
  dsimp only
  repeat' (conv => whnf
           first
             | (with_reducible refine sC (by kernel_rfl) ?_)
             | ((first | with_reducible refine sB ?_ | with_reducible refine sG0 ?_ | with_reducible refine sG1 ?_ | refine sP (by rfl) ?_); first | refine oT ?_ | refine oF ?_ | (refine Or.inr (Or.inr ⟨fun hsp => ?_, fun hsp => ?_⟩) <;> (try simp only [eqO, Ob.eta, Cl.eta, tt_true, tt_false, decide_eq_true_eq, decide_eq_false_iff_not, beq_iff_eq, beq_eq_false_iff_ne, bne_iff_ne, ne_eq, Bool.not_eq_true, Bool.not_eq_false, Bool.not_eq_eq_eq_not, Bool.not_true, Bool.not_false, Decidable.not_not, Int.not_lt, Int.not_le, gt_iff_lt, ge_iff_le, bne_eq_false_iff_eq] at hsp) <;> try subst hsp))
             | refine ⟨_, _, ok_ref11_Word_Obj C h hsm K A B N S hA hB hN, ?_⟩
             | fail)
  all_goals (conv => whnf)
  all_goals (exact PV.le.refl _)
theorem few_small (x : List Cl) : small (fewL x) := by
  refine ⟨by simp [fewL]; omega, fun c hc => ?_⟩
  obtain ⟨d, _, rfl⟩ := List.mem_map.1 hc
  refine ⟨?_, ?_, ?_, ?_⟩ <;> simp only [cutC, List.length_take] <;> omega

end Go.Ab.Td
