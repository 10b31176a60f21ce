/- Joined texts: TdRA, TdRB, TdRC, TdRD. Under: nothing. -/
import Derived.Test.YtngmifmcohmfmaaDoorTdG
import Derived.Test.YtngmifmcohmfmaaDoorSp3
import Derived.Test.YtngmifmcohmfmaaDoorTdH
/- The reference: objects, heaps. Under: nothing. -/
namespace Go.Ab.Td
open Go Go.Ab
variable {P : Program}
set_option linter.unusedSimpArgs false
attribute [local irreducible] compat

set_option maxHeartbeats 1000000 in
set_option maxRecDepth 100000 in
theorem ok_ref10_Value (C : Laid P) (o : Ob) : OkC P G n_ref10_Value [aO o] [] (pI o.val) := by
  refine ok_fn C (k_ref10_Value C) rfl ?_
  repeat' (conv => whnf
           first
             | (with_reducible refine sC (by kernel_rfl) ?_)
             | ((with_reducible refine sB ?_); first | refine oT ?_ | refine oF ?_ | (refine Or.inr (Or.inr ⟨fun hsp => ?_, fun hsp => ?_⟩) <;> (try simp only [eqO, Ob.eta, Cl.eta, tt_true, tt_false, decide_eq_true_eq, decide_eq_false_iff_not, beq_iff_eq, beq_eq_false_iff_ne, bne_iff_ne, ne_eq, Bool.not_eq_true, Bool.not_eq_false, Bool.not_eq_eq_eq_not, Bool.not_true, Bool.not_false, Decidable.not_not, Int.not_lt, Int.not_le, gt_iff_lt, ge_iff_le, bne_eq_false_iff_eq] at hsp) <;> try subst hsp))
             | ((with_reducible refine sG0 ?_); first | refine oT ?_ | refine oF ?_ | (refine Or.inr (Or.inr ⟨fun hsp => ?_, fun hsp => ?_⟩) <;> (try simp only [eqO, Ob.eta, Cl.eta, tt_true, tt_false, decide_eq_true_eq, decide_eq_false_iff_not, beq_iff_eq, beq_eq_false_iff_ne, bne_iff_ne, ne_eq, Bool.not_eq_true, Bool.not_eq_false, Bool.not_eq_eq_eq_not, Bool.not_true, Bool.not_false, Decidable.not_not, Int.not_lt, Int.not_le, gt_iff_lt, ge_iff_le, bne_eq_false_iff_eq] at hsp) <;> try subst hsp))
             | ((with_reducible refine sG1 ?_); first | refine oT ?_ | refine oF ?_ | (refine Or.inr (Or.inr ⟨fun hsp => ?_, fun hsp => ?_⟩) <;> (try simp only [eqO, Ob.eta, Cl.eta, tt_true, tt_false, decide_eq_true_eq, decide_eq_false_iff_not, beq_iff_eq, beq_eq_false_iff_ne, bne_iff_ne, ne_eq, Bool.not_eq_true, Bool.not_eq_false, Bool.not_eq_eq_eq_not, Bool.not_true, Bool.not_false, Decidable.not_not, Int.not_lt, Int.not_le, gt_iff_lt, ge_iff_le, bne_eq_false_iff_eq] at hsp) <;> try subst hsp))
             | ((refine sP (by rfl) ?_); first | refine oT ?_ | refine oF ?_ | (refine Or.inr (Or.inr ⟨fun hsp => ?_, fun hsp => ?_⟩) <;> (try simp only [eqO, Ob.eta, Cl.eta, tt_true, tt_false, decide_eq_true_eq, decide_eq_false_iff_not, beq_iff_eq, beq_eq_false_iff_ne, bne_iff_ne, ne_eq, Bool.not_eq_true, Bool.not_eq_false, Bool.not_eq_eq_eq_not, Bool.not_true, Bool.not_false, Decidable.not_not, Int.not_lt, Int.not_le, gt_iff_lt, ge_iff_le, bne_eq_false_iff_eq] at hsp) <;> try subst hsp))
             | fail)
  all_goals (conv => whnf)
  all_goals (refine le_int ?_; simp [Ob.val, *])
set_option maxHeartbeats 1000000 in
set_option maxRecDepth 100000 in
theorem ok_ref10_Int (C : Laid P) (n : Int) : OkC P G n_ref10_Int [pI n] [] (aO ⟨3, false, n, [], 0, 0, 0⟩) := by
  refine ok_fn C (k_ref10_Int C) rfl ?_
  repeat' (conv => whnf
           first
             | (with_reducible refine sC (by kernel_rfl) ?_)
             | ((with_reducible refine sB ?_); first | refine oT ?_ | refine oF ?_ | (refine Or.inr (Or.inr ⟨fun hsp => ?_, fun hsp => ?_⟩) <;> (try simp only [eqO, Ob.eta, Cl.eta, tt_true, tt_false, decide_eq_true_eq, decide_eq_false_iff_not, beq_iff_eq, beq_eq_false_iff_ne, bne_iff_ne, ne_eq, Bool.not_eq_true, Bool.not_eq_false, Bool.not_eq_eq_eq_not, Bool.not_true, Bool.not_false, Decidable.not_not, Int.not_lt, Int.not_le, gt_iff_lt, ge_iff_le, bne_eq_false_iff_eq] at hsp) <;> try subst hsp))
             | ((with_reducible refine sG0 ?_); first | refine oT ?_ | refine oF ?_ | (refine Or.inr (Or.inr ⟨fun hsp => ?_, fun hsp => ?_⟩) <;> (try simp only [eqO, Ob.eta, Cl.eta, tt_true, tt_false, decide_eq_true_eq, decide_eq_false_iff_not, beq_iff_eq, beq_eq_false_iff_ne, bne_iff_ne, ne_eq, Bool.not_eq_true, Bool.not_eq_false, Bool.not_eq_eq_eq_not, Bool.not_true, Bool.not_false, Decidable.not_not, Int.not_lt, Int.not_le, gt_iff_lt, ge_iff_le, bne_eq_false_iff_eq] at hsp) <;> try subst hsp))
             | ((with_reducible refine sG1 ?_); first | refine oT ?_ | refine oF ?_ | (refine Or.inr (Or.inr ⟨fun hsp => ?_, fun hsp => ?_⟩) <;> (try simp only [eqO, Ob.eta, Cl.eta, tt_true, tt_false, decide_eq_true_eq, decide_eq_false_iff_not, beq_iff_eq, beq_eq_false_iff_ne, bne_iff_ne, ne_eq, Bool.not_eq_true, Bool.not_eq_false, Bool.not_eq_eq_eq_not, Bool.not_true, Bool.not_false, Decidable.not_not, Int.not_lt, Int.not_le, gt_iff_lt, ge_iff_le, bne_eq_false_iff_eq] at hsp) <;> try subst hsp))
             | ((refine sP (by rfl) ?_); first | refine oT ?_ | refine oF ?_ | (refine Or.inr (Or.inr ⟨fun hsp => ?_, fun hsp => ?_⟩) <;> (try simp only [eqO, Ob.eta, Cl.eta, tt_true, tt_false, decide_eq_true_eq, decide_eq_false_iff_not, beq_iff_eq, beq_eq_false_iff_ne, bne_iff_ne, ne_eq, Bool.not_eq_true, Bool.not_eq_false, Bool.not_eq_eq_eq_not, Bool.not_true, Bool.not_false, Decidable.not_not, Int.not_lt, Int.not_le, gt_iff_lt, ge_iff_le, bne_eq_false_iff_eq] at hsp) <;> try subst hsp))
             | fail)
  all_goals (conv => whnf)
  all_goals (exact PV.le.refl _)

end Go.Ab.Td

/- The reference: heaps changed. Under: nothing. -/
namespace Go.Ab.Td
open Go Go.Ab
variable {P : Program}
set_option linter.unusedSimpArgs false
attribute [local irreducible] compat

end Go.Ab.Td

/- The reference: a key stored; lists of names. Under: nothing. -/
namespace Go.Ab.Td
open Go Go.Ab
variable {P : Program}
set_option linter.unusedSimpArgs false
attribute [local irreducible] compat
theorem pub_all {α : Type} {f : α → List PV} {l : List α} {n : Nat} (h : l.length = n) : List.take n (List.drop 0 (List.map f l)) = List.map f l := by
  subst h
  rw [List.drop_zero, List.take_of_length_le (by simp)]


end Go.Ab.Td

/- The reference: keys, resources. Under: nothing. -/
namespace Go.Ab.Td
open Go Go.Ab
variable {P : Program}
set_option linter.unusedSimpArgs false
attribute [local irreducible] compat
theorem tdiv_neg (n : Int) : -((-n).tdiv 65536) = n.tdiv 65536 := by rw [Int.neg_tdiv, Int.neg_neg]


set_option maxHeartbeats 1000000 in
set_option maxRecDepth 100000 in
theorem ok_ref10_ToInt (C : Laid P) (o : Ob) (hr : o.right) (hk : o.kind = 4) : OkC P G n_ref10_ToInt [aO o] [] (aO ⟨3, false, o.n.tdiv 65536, [], 0, 0, 0⟩) := by
  refine ok_fn C (k_ref10_ToInt C) rfl ?_
  have hb := right_real hr hk
  have htd := tdiv_bound hb.1 hb.2
  have hv : o.val = o.n := by simp [Ob.val, hk]
  have h1 : IntKind.i64.wrap (0 - o.n) = -o.n := by rw [wrap_small (by omega) (by omega)]; omega
  have h2 := tdiv_neg o.n
  have h3 : IntKind.i64.wrap ((-o.n).tdiv 65536) = (-o.n).tdiv 65536 := wrap_small (by omega) (by omega)
  have h4 : IntKind.i64.wrap (0 - (-o.n).tdiv 65536) = o.n.tdiv 65536 := by rw [wrap_small (by omega) (by omega)]; omega
  have h5 : IntKind.i64.wrap (o.n.tdiv 65536) = o.n.tdiv 65536 := wrap_small (by omega) (by omega)
  repeat' (conv => whnf
           first
             | (with_reducible refine sC (by kernel_rfl) ?_)
             | ((with_reducible refine sB ?_); first | refine Or.inl ⟨by first | assumption | (simp only [eqO, Ob.eta, Cl.eta, tt_true, tt_false, decide_eq_true_eq, decide_eq_false_iff_not, beq_iff_eq, beq_eq_false_iff_ne, bne_iff_ne, ne_eq, Bool.not_eq_true, Bool.not_eq_false, Bool.not_eq_eq_eq_not, Bool.not_true, Bool.not_false, Decidable.not_not, Int.not_lt, Int.not_le, gt_iff_lt, ge_iff_le, bne_eq_false_iff_eq, hv]; first | done | assumption | omega), ?_⟩ | refine Or.inr (Or.inl ⟨by first | assumption | (simp only [eqO, Ob.eta, Cl.eta, tt_true, tt_false, decide_eq_true_eq, decide_eq_false_iff_not, beq_iff_eq, beq_eq_false_iff_ne, bne_iff_ne, ne_eq, Bool.not_eq_true, Bool.not_eq_false, Bool.not_eq_eq_eq_not, Bool.not_true, Bool.not_false, Decidable.not_not, Int.not_lt, Int.not_le, gt_iff_lt, ge_iff_le, bne_eq_false_iff_eq, hv]; first | done | assumption | omega), ?_⟩) | (refine Or.inr (Or.inr ⟨fun hsp => ?_, fun hsp => ?_⟩) <;> (try simp only [eqO, Ob.eta, Cl.eta, tt_true, tt_false, decide_eq_true_eq, decide_eq_false_iff_not, beq_iff_eq, beq_eq_false_iff_ne, bne_iff_ne, ne_eq, Bool.not_eq_true, Bool.not_eq_false, Bool.not_eq_eq_eq_not, Bool.not_true, Bool.not_false, Decidable.not_not, Int.not_lt, Int.not_le, gt_iff_lt, ge_iff_le, bne_eq_false_iff_eq, hv] at hsp) <;> try subst hsp))
             | ((with_reducible refine sG0 ?_); first | refine Or.inl ⟨by first | assumption | (simp only [eqO, Ob.eta, Cl.eta, tt_true, tt_false, decide_eq_true_eq, decide_eq_false_iff_not, beq_iff_eq, beq_eq_false_iff_ne, bne_iff_ne, ne_eq, Bool.not_eq_true, Bool.not_eq_false, Bool.not_eq_eq_eq_not, Bool.not_true, Bool.not_false, Decidable.not_not, Int.not_lt, Int.not_le, gt_iff_lt, ge_iff_le, bne_eq_false_iff_eq, hv]; first | done | assumption | omega), ?_⟩ | refine Or.inr (Or.inl ⟨by first | assumption | (simp only [eqO, Ob.eta, Cl.eta, tt_true, tt_false, decide_eq_true_eq, decide_eq_false_iff_not, beq_iff_eq, beq_eq_false_iff_ne, bne_iff_ne, ne_eq, Bool.not_eq_true, Bool.not_eq_false, Bool.not_eq_eq_eq_not, Bool.not_true, Bool.not_false, Decidable.not_not, Int.not_lt, Int.not_le, gt_iff_lt, ge_iff_le, bne_eq_false_iff_eq, hv]; first | done | assumption | omega), ?_⟩) | (refine Or.inr (Or.inr ⟨fun hsp => ?_, fun hsp => ?_⟩) <;> (try simp only [eqO, Ob.eta, Cl.eta, tt_true, tt_false, decide_eq_true_eq, decide_eq_false_iff_not, beq_iff_eq, beq_eq_false_iff_ne, bne_iff_ne, ne_eq, Bool.not_eq_true, Bool.not_eq_false, Bool.not_eq_eq_eq_not, Bool.not_true, Bool.not_false, Decidable.not_not, Int.not_lt, Int.not_le, gt_iff_lt, ge_iff_le, bne_eq_false_iff_eq, hv] at hsp) <;> try subst hsp))
             | ((with_reducible refine sG1 ?_); first | refine Or.inl ⟨by first | assumption | (simp only [eqO, Ob.eta, Cl.eta, tt_true, tt_false, decide_eq_true_eq, decide_eq_false_iff_not, beq_iff_eq, beq_eq_false_iff_ne, bne_iff_ne, ne_eq, Bool.not_eq_true, Bool.not_eq_false, Bool.not_eq_eq_eq_not, Bool.not_true, Bool.not_false, Decidable.not_not, Int.not_lt, Int.not_le, gt_iff_lt, ge_iff_le, bne_eq_false_iff_eq, hv]; first | done | assumption | omega), ?_⟩ | refine Or.inr (Or.inl ⟨by first | assumption | (simp only [eqO, Ob.eta, Cl.eta, tt_true, tt_false, decide_eq_true_eq, decide_eq_false_iff_not, beq_iff_eq, beq_eq_false_iff_ne, bne_iff_ne, ne_eq, Bool.not_eq_true, Bool.not_eq_false, Bool.not_eq_eq_eq_not, Bool.not_true, Bool.not_false, Decidable.not_not, Int.not_lt, Int.not_le, gt_iff_lt, ge_iff_le, bne_eq_false_iff_eq, hv]; first | done | assumption | omega), ?_⟩) | (refine Or.inr (Or.inr ⟨fun hsp => ?_, fun hsp => ?_⟩) <;> (try simp only [eqO, Ob.eta, Cl.eta, tt_true, tt_false, decide_eq_true_eq, decide_eq_false_iff_not, beq_iff_eq, beq_eq_false_iff_ne, bne_iff_ne, ne_eq, Bool.not_eq_true, Bool.not_eq_false, Bool.not_eq_eq_eq_not, Bool.not_true, Bool.not_false, Decidable.not_not, Int.not_lt, Int.not_le, gt_iff_lt, ge_iff_le, bne_eq_false_iff_eq, hv] at hsp) <;> try subst hsp))
             | ((refine sP (by rfl) ?_); first | refine Or.inl ⟨by first | assumption | (simp only [eqO, Ob.eta, Cl.eta, tt_true, tt_false, decide_eq_true_eq, decide_eq_false_iff_not, beq_iff_eq, beq_eq_false_iff_ne, bne_iff_ne, ne_eq, Bool.not_eq_true, Bool.not_eq_false, Bool.not_eq_eq_eq_not, Bool.not_true, Bool.not_false, Decidable.not_not, Int.not_lt, Int.not_le, gt_iff_lt, ge_iff_le, bne_eq_false_iff_eq, hv]; first | done | assumption | omega), ?_⟩ | refine Or.inr (Or.inl ⟨by first | assumption | (simp only [eqO, Ob.eta, Cl.eta, tt_true, tt_false, decide_eq_true_eq, decide_eq_false_iff_not, beq_iff_eq, beq_eq_false_iff_ne, bne_iff_ne, ne_eq, Bool.not_eq_true, Bool.not_eq_false, Bool.not_eq_eq_eq_not, Bool.not_true, Bool.not_false, Decidable.not_not, Int.not_lt, Int.not_le, gt_iff_lt, ge_iff_le, bne_eq_false_iff_eq, hv]; first | done | assumption | omega), ?_⟩) | (refine Or.inr (Or.inr ⟨fun hsp => ?_, fun hsp => ?_⟩) <;> (try simp only [eqO, Ob.eta, Cl.eta, tt_true, tt_false, decide_eq_true_eq, decide_eq_false_iff_not, beq_iff_eq, beq_eq_false_iff_ne, bne_iff_ne, ne_eq, Bool.not_eq_true, Bool.not_eq_false, Bool.not_eq_eq_eq_not, Bool.not_true, Bool.not_false, Decidable.not_not, Int.not_lt, Int.not_le, gt_iff_lt, ge_iff_le, bne_eq_false_iff_eq, hv] at hsp) <;> try subst hsp))
             | refine ⟨_, _, ok_ref10_Value C o, ?_⟩
             | refine ⟨_, _, ok_ref10_Int C _, ?_⟩
             | refine sS (quo_at (by rfl) (by rfl) (by decide)) ?_
             | fail)
  all_goals (conv => whnf)
  all_goals (simp only [hv, h1, h3, h4, h5]; exact PV.le.refl _)
end Go.Ab.Td
