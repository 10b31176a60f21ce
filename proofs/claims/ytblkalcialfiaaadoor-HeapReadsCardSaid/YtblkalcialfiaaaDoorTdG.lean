/- Objects and heaps: keys. Under: nothing. -/
import Derived.Test.YtblkalcialfiaaaDoorTdF
namespace Go.Ab.Td
open Go Go.Ab
variable {P : Program}
set_option linter.unusedSimpArgs false
attribute [local irreducible] compat

set_option maxHeartbeats 1000000 in
set_option maxRecDepth 100000 in
theorem ok_heap_Bytes (C : Laid P) (h : List Cl) (o : Ob) (ho : o.n < 9223372036854775808) (hv : vErr h o [6] = 0) : OkC P G n_heap_Bytes [.sl 7 (List.map encC h), aO o] [] (.tup [.str (sub h o), pI 0]) := by
  refine ok_fn C (k_heap_Bytes C) rfl ?_
  obtain ⟨⟨hr1, hr2⟩, ⟨hf1, hf2, hf3⟩, hk, hc⟩ := view_facts hv
  have hk6 : o.kind = 6 := by simpa using hk
  have hc2 := hc.resolve_left (by simp [cellK, hk6])
  obtain ⟨hc3, hc4, hc5⟩ := hc2
  have hc6 : o.off + o.len ≤ (cellAt h o).bytes.length := by simpa [hk6, Cl.length, hc4, cellK] using hc5
  have hw : IntKind.i64.wrap (o.off + o.len) = o.off + o.len := wrap_small (by omega) (by omega)
  repeat' (conv => whnf
           first
             | (with_reducible refine sC (by kernel_rfl) ?_)
             | ((first | with_reducible refine sB ?_ | with_reducible refine sG0 ?_ | with_reducible refine sG1 ?_ | refine sP (by rfl) ?_); first | refine Or.inl ⟨by first | assumption | (simp only [eqO, Ob.eta, Cl.eta, tt_true, tt_false, decide_eq_true_eq, decide_eq_false_iff_not, beq_iff_eq, beq_eq_false_iff_ne, bne_iff_ne, ne_eq, Bool.not_eq_true, Bool.not_eq_false, Bool.not_eq_eq_eq_not, Bool.not_true, Bool.not_false, Decidable.not_not, Int.not_lt, Int.not_le, gt_iff_lt, ge_iff_le, bne_eq_false_iff_eq, List.length_map]; first | done | assumption | omega), ?_⟩ | refine Or.inr (Or.inl ⟨by first | assumption | (simp only [eqO, Ob.eta, Cl.eta, tt_true, tt_false, decide_eq_true_eq, decide_eq_false_iff_not, beq_iff_eq, beq_eq_false_iff_ne, bne_iff_ne, ne_eq, Bool.not_eq_true, Bool.not_eq_false, Bool.not_eq_eq_eq_not, Bool.not_true, Bool.not_false, Decidable.not_not, Int.not_lt, Int.not_le, gt_iff_lt, ge_iff_le, bne_eq_false_iff_eq, List.length_map]; first | done | assumption | omega), ?_⟩) | (refine Or.inr (Or.inr ⟨fun hsp => ?_, fun hsp => ?_⟩) <;> (try simp only [eqO, Ob.eta, Cl.eta, tt_true, tt_false, decide_eq_true_eq, decide_eq_false_iff_not, beq_iff_eq, beq_eq_false_iff_ne, bne_iff_ne, ne_eq, Bool.not_eq_true, Bool.not_eq_false, Bool.not_eq_eq_eq_not, Bool.not_true, Bool.not_false, Decidable.not_not, Int.not_lt, Int.not_le, gt_iff_lt, ge_iff_le, bne_eq_false_iff_eq, List.length_map] at hsp) <;> try subst hsp))
             | refine ⟨_, _, ok_heap_viewOf C _ o [6] (by assumption) (by decide) (by assumption), ?_⟩
             | refine ⟨_, _, ok_heap_view_cell C _ o (by omega) (by omega), ?_⟩
             | refine sS (sslice_lh (by rfl) (by rfl) (by rfl) (by omega) (by rw [hw]; omega) (by rw [hw]; omega)) ?_
             | fail)
  all_goals (conv => whnf)
  all_goals (rw [hw]; exact PV.le.refl _)
set_option maxHeartbeats 1000000 in
set_option maxRecDepth 100000 in
theorem ok_heap_Bytes_bad (C : Laid P) (h : List Cl) (o : Ob) (ho : o.n < 9223372036854775808) (hv : vErr h o [6] ≠ 0) : OkC P G n_heap_Bytes [.sl 7 (List.map encC h), aO o] [] (.tup [.str [], pI (vErr h o [6])]) := by
  refine ok_fn C (k_heap_Bytes C) rfl ?_
  repeat' (conv => whnf
           first
             | (with_reducible refine sC (by kernel_rfl) ?_)
             | ((first | with_reducible refine sB ?_ | with_reducible refine sG0 ?_ | with_reducible refine sG1 ?_ | refine sP (by rfl) ?_); first | refine Or.inl ⟨by first | assumption | (simp only [eqO, Ob.eta, Cl.eta, tt_true, tt_false, decide_eq_true_eq, decide_eq_false_iff_not, beq_iff_eq, beq_eq_false_iff_ne, bne_iff_ne, ne_eq, Bool.not_eq_true, Bool.not_eq_false, Bool.not_eq_eq_eq_not, Bool.not_true, Bool.not_false, Decidable.not_not, Int.not_lt, Int.not_le, gt_iff_lt, ge_iff_le, bne_eq_false_iff_eq]; first | done | assumption | omega), ?_⟩ | refine Or.inr (Or.inl ⟨by first | assumption | (simp only [eqO, Ob.eta, Cl.eta, tt_true, tt_false, decide_eq_true_eq, decide_eq_false_iff_not, beq_iff_eq, beq_eq_false_iff_ne, bne_iff_ne, ne_eq, Bool.not_eq_true, Bool.not_eq_false, Bool.not_eq_eq_eq_not, Bool.not_true, Bool.not_false, Decidable.not_not, Int.not_lt, Int.not_le, gt_iff_lt, ge_iff_le, bne_eq_false_iff_eq]; first | done | assumption | omega), ?_⟩) | (refine Or.inr (Or.inr ⟨fun hsp => ?_, fun hsp => ?_⟩) <;> (try simp only [eqO, Ob.eta, Cl.eta, tt_true, tt_false, decide_eq_true_eq, decide_eq_false_iff_not, beq_iff_eq, beq_eq_false_iff_ne, bne_iff_ne, ne_eq, Bool.not_eq_true, Bool.not_eq_false, Bool.not_eq_eq_eq_not, Bool.not_true, Bool.not_false, Decidable.not_not, Int.not_lt, Int.not_le, gt_iff_lt, ge_iff_le, bne_eq_false_iff_eq] at hsp) <;> try subst hsp))
             | refine ⟨_, _, ok_heap_viewOf_bad C _ o [6] (by assumption) (by decide) (by assumption), ?_⟩
             | fail)
  all_goals (conv => whnf)
  all_goals (exact PV.le.refl _)
end Go.Ab.Td
