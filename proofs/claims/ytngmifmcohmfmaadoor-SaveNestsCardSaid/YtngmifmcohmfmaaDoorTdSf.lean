/- SaveNests: start, saved, with. Under: nothing. -/
import Derived.Test.YtngmifmcohmfmaaDoorTdSd
import Derived.Test.YtngmifmcohmfmaaDoorTdTy
import Derived.Test.YtngmifmcohmfmaaDoorTdW19
namespace Go.Ab.Td
open Go Go.Ab
variable {P : Program}
set_option linter.unusedSimpArgs false
attribute [local irreducible] compat

set_option maxHeartbeats 1000000 in
set_option maxRecDepth 100000 in
theorem ok_law19_saved (C : Laid P) (n : Int) : OkC P G n_law19_saved [pI n] [] (aO (svO n)) := by
  refine ok_fn C (k_law19_saved C) rfl ?_
  repeat' (conv => whnf
           first
             | (with_reducible refine sC (by kernel_rfl) ?_)
             | ((first | with_reducible refine sB ?_ | with_reducible refine sG0 ?_ | with_reducible refine sG1 ?_ | refine sP (by rfl) ?_); first | refine oT ?_ | refine oF ?_ | (refine Or.inr (Or.inr ⟨fun hsp => ?_, fun hsp => ?_⟩) <;> (try simp only [eqO, Ob.eta, Cl.eta, tt_true, tt_false, decide_eq_true_eq, decide_eq_false_iff_not, beq_iff_eq, beq_eq_false_iff_ne, bne_iff_ne, ne_eq, Bool.not_eq_true, Bool.not_eq_false, Bool.not_eq_eq_eq_not, Bool.not_true, Bool.not_false, Decidable.not_not, Int.not_lt, Int.not_le, gt_iff_lt, ge_iff_le, bne_eq_false_iff_eq] at hsp) <;> try subst hsp))
             | fail)
  all_goals (conv => whnf)
  all_goals (exact PV.le.refl _)

set_option maxHeartbeats 8000000 in
set_option maxRecDepth 100000 in
theorem ok_law19_start (C : Laid P) (cells ops dicts : List (List PV)) (s : Sta) (ks : OkC P G n_ref11_Draft_State [.agg [.sl 5 cells, .sl 5 ops, .sl 1 dicts]] [] (aS s)) : OkC P G n_law19_start [.agg [.sl 5 cells, .sl 5 ops, .sl 1 dicts]] [] (aS { s with f45 := 1 }) := by
  refine ok_fn C (k_law19_start C) rfl ?_
  repeat' (conv => whnf
           first
             | (with_reducible refine sC (by kernel_rfl) ?_)
             | ((first | with_reducible refine sB ?_ | with_reducible refine sG0 ?_ | with_reducible refine sG1 ?_ | refine sP (by rfl) ?_); first | refine oT ?_ | refine oF ?_ | (refine Or.inr (Or.inr ⟨fun hsp => ?_, fun hsp => ?_⟩) <;> (try simp only [eqO, Ob.eta, Cl.eta, tt_true, tt_false, decide_eq_true_eq, decide_eq_false_iff_not, beq_iff_eq, beq_eq_false_iff_ne, bne_iff_ne, ne_eq, Bool.not_eq_true, Bool.not_eq_false, Bool.not_eq_eq_eq_not, Bool.not_true, Bool.not_false, Decidable.not_not, Int.not_lt, Int.not_le, gt_iff_lt, ge_iff_le, bne_eq_false_iff_eq] at hsp) <;> try subst hsp))
             | refine ⟨_, _, ks, ?_⟩
             | fail)
  all_goals (conv => whnf)
  all_goals (exact PV.le.refl _)
theorem ok_fnE (C : Laid P) {g : Nat} {c : RFn} {ps : List PV} {r : PV} (hk : chkFn P g c = true) (hl : ps.length = c.nparams) (h : fnV G (OkC P G) TdW19.ext noT noT 1 c ps r) : OkC P G g ps [] r :=
  ok_of_fnV C.mixed hk (TdW19.extOk C) (fun _ _ h => by cases h) (fun _ _ h => by cases h) hl h
set_option maxHeartbeats 4000000 in
set_option maxRecDepth 100000 in
theorem ok_law19_with (C : Laid P) (s : Sta) (o : Ob) (ho : s.ops = []) : OkC P G n_law19_with [aS s, .sl 7 (List.map encO [o])] [] (aS { s with ops := [o] }) := by
  refine ok_fnE C (k_law19_with C) rfl ?_
  rw [show aS s = aS { s with ops := [] } by rw [← ho]]
  repeat' (conv => whnf
           first
             | (with_reducible refine sC (by kernel_rfl) ?_)
             | ((first | with_reducible refine sB ?_ | with_reducible refine sG0 ?_ | with_reducible refine sG1 ?_ | refine sP (by rfl) ?_); first | refine oT ?_ | refine oF ?_ | (refine Or.inr (Or.inr ⟨fun hsp => ?_, fun hsp => ?_⟩) <;> (try simp only [eqO, Ob.eta, Cl.eta, tt_true, tt_false, decide_eq_true_eq, decide_eq_false_iff_not, beq_iff_eq, beq_eq_false_iff_ne, bne_iff_ne, ne_eq, Bool.not_eq_true, Bool.not_eq_false, Bool.not_eq_eq_eq_not, Bool.not_true, Bool.not_false, Decidable.not_not, Int.not_lt, Int.not_le, gt_iff_lt, ge_iff_le, bne_eq_false_iff_eq] at hsp) <;> try subst hsp))
             | refine sS (append_oM (f := encO) (l := ([] : List Ob)) (x' := [o]) (by rfl) (by rfl) (by rfl) (by first | exact prows_pv | exact prows_fsl | exact prows_own (by rfl) (by rfl)) (by rfl) (by simp)) ?_
             | fail)
  all_goals (conv => whnf)
  all_goals (first | exact PV.le.refl _ | (trace_state; sorry))

end Go.Ab.Td
