/- Joined texts: TdEq, TdEr. Under: nothing. -/
import Derived.Test.YtblkalcialfiaaaDoorTdRK
/- Equality: the program. Under: nothing. -/
namespace Go.Ab.Td
open Go Go.Ab
variable {P : Program}
set_option linter.unusedSimpArgs false
attribute [local irreducible] compat
theorem vErr6 {h : List Cl} {o : Ob} (hf : fits h o) : (o.kind = 6 → vErr h o [6] = 0) ∧ (o.kind ≠ 6 → vErr h o [6] = 22) := by
  constructor
  · intro hk; simp [vErr, hf, hk]
  · intro hk; simp [vErr, hf, hk]


set_option maxHeartbeats 1000000 in
set_option maxRecDepth 100000 in
theorem ok_heap_octets (C : Laid P) (h : List Cl) (o : Ob) (ho : o.n < 9223372036854775808) (hf : fits h o) : OkC P G n_heap_octets [.sl 7 (List.map encC h), aO o] [] (.tup [.str ((oct h o).getD []), .bool (oct h o).isSome]) := by
  refine ok_fn C (k_heap_octets C) rfl ?_
  have hv := vErr6 hf
  by_cases hk : o.kind = 6
  · have hv0 := hv.1 hk
    clear hv
    repeat' (conv => whnf
             first
               | (with_reducible refine sC (by kernel_rfl) ?_)
               | ((first | with_reducible refine sB ?_ | with_reducible refine sG0 ?_ | with_reducible refine sG1 ?_ | refine sP (by rfl) ?_); first | refine Or.inl ⟨by first | assumption | (simp only [eqO, Ob.eta, Cl.eta, tt_true, tt_false, decide_eq_true_eq, decide_eq_false_iff_not, beq_iff_eq, beq_eq_false_iff_ne, bne_iff_ne, ne_eq, Bool.not_eq_true, Bool.not_eq_false, Bool.not_eq_eq_eq_not, Bool.not_true, Bool.not_false, Decidable.not_not, Int.not_lt, Int.not_le, gt_iff_lt, ge_iff_le, bne_eq_false_iff_eq]; first | done | assumption | omega), ?_⟩ | refine Or.inr (Or.inl ⟨by first | assumption | (simp only [eqO, Ob.eta, Cl.eta, tt_true, tt_false, decide_eq_true_eq, decide_eq_false_iff_not, beq_iff_eq, beq_eq_false_iff_ne, bne_iff_ne, ne_eq, Bool.not_eq_true, Bool.not_eq_false, Bool.not_eq_eq_eq_not, Bool.not_true, Bool.not_false, Decidable.not_not, Int.not_lt, Int.not_le, gt_iff_lt, ge_iff_le, bne_eq_false_iff_eq]; first | done | assumption | omega), ?_⟩) | (refine Or.inr (Or.inr ⟨fun hsp => ?_, fun hsp => ?_⟩) <;> (try simp only [eqO, Ob.eta, Cl.eta, tt_true, tt_false, decide_eq_true_eq, decide_eq_false_iff_not, beq_iff_eq, beq_eq_false_iff_ne, bne_iff_ne, ne_eq, Bool.not_eq_true, Bool.not_eq_false, Bool.not_eq_eq_eq_not, Bool.not_true, Bool.not_false, Decidable.not_not, Int.not_lt, Int.not_le, gt_iff_lt, ge_iff_le, bne_eq_false_iff_eq] at hsp) <;> try subst hsp))
               | refine ⟨_, _, ok_heap_Bytes C h o ho hv0, ?_⟩
               | fail)
    all_goals (conv => whnf)
    all_goals (simp [oct, *]; exact PV.le.refl _)
  · have hv0 := hv.2 hk
    repeat' (conv => whnf
             first
               | (with_reducible refine sC (by kernel_rfl) ?_)
               | ((first | with_reducible refine sB ?_ | with_reducible refine sG0 ?_ | with_reducible refine sG1 ?_ | refine sP (by rfl) ?_); first | refine Or.inl ⟨by first | assumption | (simp only [eqO, Ob.eta, Cl.eta, tt_true, tt_false, decide_eq_true_eq, decide_eq_false_iff_not, beq_iff_eq, beq_eq_false_iff_ne, bne_iff_ne, ne_eq, Bool.not_eq_true, Bool.not_eq_false, Bool.not_eq_eq_eq_not, Bool.not_true, Bool.not_false, Decidable.not_not, Int.not_lt, Int.not_le, gt_iff_lt, ge_iff_le, bne_eq_false_iff_eq, hv0]; first | done | assumption | omega), ?_⟩ | refine Or.inr (Or.inl ⟨by first | assumption | (simp only [eqO, Ob.eta, Cl.eta, tt_true, tt_false, decide_eq_true_eq, decide_eq_false_iff_not, beq_iff_eq, beq_eq_false_iff_ne, bne_iff_ne, ne_eq, Bool.not_eq_true, Bool.not_eq_false, Bool.not_eq_eq_eq_not, Bool.not_true, Bool.not_false, Decidable.not_not, Int.not_lt, Int.not_le, gt_iff_lt, ge_iff_le, bne_eq_false_iff_eq, hv0]; first | done | assumption | omega), ?_⟩) | (refine Or.inr (Or.inr ⟨fun hsp => ?_, fun hsp => ?_⟩) <;> (try simp only [eqO, Ob.eta, Cl.eta, tt_true, tt_false, decide_eq_true_eq, decide_eq_false_iff_not, beq_iff_eq, beq_eq_false_iff_ne, bne_iff_ne, ne_eq, Bool.not_eq_true, Bool.not_eq_false, Bool.not_eq_eq_eq_not, Bool.not_true, Bool.not_false, Decidable.not_not, Int.not_lt, Int.not_le, gt_iff_lt, ge_iff_le, bne_eq_false_iff_eq, hv0] at hsp) <;> try subst hsp))
               | refine ⟨_, _, ok_heap_Bytes_bad C h o ho (by rw [hv0]; decide), ?_⟩
               | fail)
    all_goals (conv => whnf)
    all_goals (simp [oct, *]; exact PV.le.refl _)
  skip
open Classical in
noncomputable def cmpE (a b : Ob) : Int := if ¬ a.right ∨ ¬ b.right then 200 else if a.isNum ∧ b.isNum then 0 else 22
open Classical in
noncomputable def cmpV (a b : Ob) : Int := if cmpE a b = 0 then (if a.val < b.val then -1 else if b.val < a.val then 1 else 0) else 0


set_option maxHeartbeats 1000000 in
set_option maxRecDepth 100000 in
theorem ok_object_Compare (C : Laid P) (a b : Ob) (ha : a.n < 9223372036854775808) (hb : b.n < 9223372036854775808) : OkC P G n_object_Compare [aO a, aO b] [] (.tup [pI (cmpV a b), pI (cmpE a b)]) := by
  refine ok_fn C (k_object_Compare C) rfl ?_
  repeat' (conv => whnf
           first
             | (with_reducible refine sC (by kernel_rfl) ?_)
             | ((first | with_reducible refine sB ?_ | with_reducible refine sG0 ?_ | with_reducible refine sG1 ?_ | refine sP (by rfl) ?_); first | refine Or.inl ⟨by first | assumption | (simp only [eqO, Ob.eta, Cl.eta, tt_true, tt_false, decide_eq_true_eq, decide_eq_false_iff_not, beq_iff_eq, beq_eq_false_iff_ne, bne_iff_ne, ne_eq, Bool.not_eq_true, Bool.not_eq_false, Bool.not_eq_eq_eq_not, Bool.not_true, Bool.not_false, Decidable.not_not, Int.not_lt, Int.not_le, gt_iff_lt, ge_iff_le, bne_eq_false_iff_eq, ck_eq0, ck_ne0]; first | done | assumption | omega), ?_⟩ | refine Or.inr (Or.inl ⟨by first | assumption | (simp only [eqO, Ob.eta, Cl.eta, tt_true, tt_false, decide_eq_true_eq, decide_eq_false_iff_not, beq_iff_eq, beq_eq_false_iff_ne, bne_iff_ne, ne_eq, Bool.not_eq_true, Bool.not_eq_false, Bool.not_eq_eq_eq_not, Bool.not_true, Bool.not_false, Decidable.not_not, Int.not_lt, Int.not_le, gt_iff_lt, ge_iff_le, bne_eq_false_iff_eq, ck_eq0, ck_ne0]; first | done | assumption | omega), ?_⟩) | (refine Or.inr (Or.inr ⟨fun hsp => ?_, fun hsp => ?_⟩) <;> (try simp only [eqO, Ob.eta, Cl.eta, tt_true, tt_false, decide_eq_true_eq, decide_eq_false_iff_not, beq_iff_eq, beq_eq_false_iff_ne, bne_iff_ne, ne_eq, Bool.not_eq_true, Bool.not_eq_false, Bool.not_eq_eq_eq_not, Bool.not_true, Bool.not_false, Decidable.not_not, Int.not_lt, Int.not_le, gt_iff_lt, ge_iff_le, bne_eq_false_iff_eq, ck_eq0, ck_ne0] at hsp) <;> try subst hsp))
             | refine ⟨_, _, ok_object_Check C a ha, ?_⟩
             | refine ⟨_, _, ok_object_Check C b hb, ?_⟩
             | refine ⟨_, _, ok_object_Value C a ha, ?_⟩
             | refine ⟨_, _, ok_object_Value C b hb, ?_⟩
             | intro X hX hW
             | refine hX _ ?_
             | fail)
  all_goals (conv => whnf)
  all_goals ((repeat' (first | (with_reducible exact PV.le.refl _) | exact PV.le.emp _ | exact LeL.nil | (with_reducible refine le_tup ?_) | (with_reducible refine le_agg ?_) | (refine LeL.cons ?_ ?_) | (with_reducible refine le_int ?_) | (with_reducible refine le_str ?_) | (with_reducible refine tt_T ?_) | (with_reducible refine tt_F ?_) | (with_reducible refine le_sle ?_) | (refine tt_B ?_))) <;> first | rfl | exact PV.le.refl _ | ((try simp only [Ob.eta, Cl.eta, List.length_map] at *); first | rfl | (refine le_of_eq ?_; congr 1; grind [cmpE, cmpV, numE, Ob.isNum]) | grind [cmpE, cmpV, numE, Ob.isNum]))
end Go.Ab.Td

/- Equality: the program, alike the reference. Under: nothing. -/
namespace Go.Ab.Td
open Go Go.Ab
variable {P : Program}
set_option linter.unusedSimpArgs false
attribute [local irreducible] compat
theorem eqO_exec {a b : Ob} : (({ a with exec := b.exec } : Ob) = b) = (({ a with exec := false } : Ob) = { b with exec := false }) := by
  cases a; cases b; simp


set_option maxHeartbeats 1000000 in
set_option maxRecDepth 100000 in
theorem ok_heap_Equal (C : Laid P) (h : List Cl) (a b : Ob) (ha : a.n < 9223372036854775808) (hb : b.n < 9223372036854775808) : OkC P G n_heap_Equal [.sl 7 (List.map encC h), aO a, aO b] [] (.bool (tt (eqv h a b))) := by
  refine ok_fn C (k_heap_Equal C) rfl ?_
  have r1 := @fits_right h a
  have r2 := @fits_right h b
  have hx := @eqO_exec a b
  repeat' (conv => whnf
           first
             | (with_reducible refine sC (by kernel_rfl) ?_)
             | ((first | with_reducible refine sB ?_ | with_reducible refine sG0 ?_ | with_reducible refine sG1 ?_ | refine sP (by rfl) ?_); first | refine Or.inl ⟨by first | assumption | (simp only [eqO, Ob.eta, Cl.eta, tt_true, tt_false, decide_eq_true_eq, decide_eq_false_iff_not, beq_iff_eq, beq_eq_false_iff_ne, bne_iff_ne, ne_eq, Bool.not_eq_true, Bool.not_eq_false, Bool.not_eq_eq_eq_not, Bool.not_true, Bool.not_false, Decidable.not_not, Int.not_lt, Int.not_le, gt_iff_lt, ge_iff_le, bne_eq_false_iff_eq]; first | done | assumption | omega), ?_⟩ | refine Or.inr (Or.inl ⟨by first | assumption | (simp only [eqO, Ob.eta, Cl.eta, tt_true, tt_false, decide_eq_true_eq, decide_eq_false_iff_not, beq_iff_eq, beq_eq_false_iff_ne, bne_iff_ne, ne_eq, Bool.not_eq_true, Bool.not_eq_false, Bool.not_eq_eq_eq_not, Bool.not_true, Bool.not_false, Decidable.not_not, Int.not_lt, Int.not_le, gt_iff_lt, ge_iff_le, bne_eq_false_iff_eq]; first | done | assumption | omega), ?_⟩) | (refine Or.inr (Or.inr ⟨fun hsp => ?_, fun hsp => ?_⟩) <;> (try simp only [eqO, Ob.eta, Cl.eta, tt_true, tt_false, decide_eq_true_eq, decide_eq_false_iff_not, beq_iff_eq, beq_eq_false_iff_ne, bne_iff_ne, ne_eq, Bool.not_eq_true, Bool.not_eq_false, Bool.not_eq_eq_eq_not, Bool.not_true, Bool.not_false, Decidable.not_not, Int.not_lt, Int.not_le, gt_iff_lt, ge_iff_le, bne_eq_false_iff_eq] at hsp) <;> try subst hsp))
             | refine ⟨_, _, ok_heap_Fits C h a ha, ?_⟩
             | refine ⟨_, _, ok_heap_Fits C h b hb, ?_⟩
             | refine ⟨_, _, ok_object_Compare C a b ha hb, ?_⟩
             | refine ⟨_, _, ok_heap_octets C h a ha (by assumption), ?_⟩
             | refine ⟨_, _, ok_heap_octets C h b hb (by assumption), ?_⟩
             | fail)
  all_goals (conv => whnf)
  all_goals (first | (with_reducible refine tt_T ?_) | (with_reducible refine tt_F ?_) | (refine tt_B ?_; try simp (disch := omega) only [eqO, Ob.eta, Cl.eta, tt_true, tt_false, decide_eq_true_eq, decide_eq_false_iff_not, beq_iff_eq, beq_eq_false_iff_ne, bne_iff_ne, ne_eq, Bool.not_eq_true, Bool.not_eq_false, Bool.not_eq_eq_eq_not, Bool.not_true, Bool.not_false, Decidable.not_not, Int.not_lt, Int.not_le, gt_iff_lt, ge_iff_le, bne_eq_false_iff_eq, wrap_small])) <;> (grind [eqv, cmpE, cmpV])
end Go.Ab.Td
