/- Reading: Items, Len, Interval. Under: nothing. -/
import Derived.Test.YtngmifmcohmfmaaDoorTdRK
import Derived.Test.YtngmifmcohmfmaaDoorTdEr
namespace Go.Ab.Td
open Go Go.Ab
variable {P : Program}
set_option linter.unusedSimpArgs false
attribute [local irreducible] compat
/-- The length of an object. -/
noncomputable def lenO (h : List Cl) (o : Ob) : Int := if o.kind = 9 then (cellAt h o).keys.length else if o.kind = 5 then o.name.length else o.len
theorem vfacts9 {h : List Cl} {o : Ob} {ks : List Int} (hv : vErr h o ks = 0) : o.kind = 9 → 0 ≤ o.ref ∧ o.ref < h.length := by
  obtain ⟨⟨hr1, hr2⟩, ⟨hf1, hf2, hf3⟩, hk, hc⟩ := view_facts hv
  intro h9
  obtain ⟨hc3, -, -⟩ := hc.resolve_left (by rw [h9]; decide)
  exact ⟨hr1, by omega⟩


set_option maxHeartbeats 1000000 in
set_option maxRecDepth 100000 in
theorem ok_heap_Len (C : Laid P) (h : List Cl) (o : Ob) (ho : o.n < 9223372036854775808) (hv : vErr h o [6, 7, 8, 9, 5] = 0) : OkC P G n_heap_Len [.sl 7 (List.map encC h), aO o] [] (.tup [pI (lenO h o), pI 0]) := by
  refine ok_fn C (k_heap_Len C) rfl ?_
  have h9 := vfacts9 hv
  repeat' (conv => whnf
           first
             | (with_reducible refine sC (by kernel_rfl) ?_)
             | ((first | with_reducible refine sB ?_ | with_reducible refine sG0 ?_ | with_reducible refine sG1 ?_ | refine sP (by rfl) ?_); first | refine oT ?_ | refine oF ?_ | (refine Or.inr (Or.inr ⟨fun hsp => ?_, fun hsp => ?_⟩) <;> (try simp only [eqO, Ob.eta, Cl.eta, tt_true, tt_false, decide_eq_true_eq, decide_eq_false_iff_not, beq_iff_eq, beq_eq_false_iff_ne, bne_iff_ne, ne_eq, Bool.not_eq_true, Bool.not_eq_false, Bool.not_eq_eq_eq_not, Bool.not_true, Bool.not_false, Decidable.not_not, Int.not_lt, Int.not_le, gt_iff_lt, ge_iff_le, bne_eq_false_iff_eq, List.length_map] at hsp) <;> try subst hsp))
             | refine ⟨_, _, ok_heap_viewOf C _ o [6, 7, 8, 9, 5] (by assumption) (by decide) (by assumption), ?_⟩
             | refine ⟨_, _, ok_heap_view_cell C _ o (h9 (by assumption)).1 (h9 (by assumption)).2, ?_⟩
             | fail)
  all_goals (conv => whnf)
  all_goals ((repeat' (first | (with_reducible exact PV.le.refl _) | exact PV.le.emp _ | exact LeL.nil | (with_reducible refine le_tup ?_) | (with_reducible refine le_agg ?_) | (refine LeL.cons ?_ ?_) | (with_reducible refine le_int ?_) | (with_reducible refine le_str ?_) | (with_reducible refine tt_T ?_) | (with_reducible refine tt_F ?_) | (with_reducible refine le_sle ?_) | (refine tt_B ?_))) <;> first | rfl | exact PV.le.refl _ | ((try simp only [Ob.eta, Cl.eta, List.length_map] at *); first | rfl | (refine le_of_eq ?_; congr 1; grind [lenO]) | grind [lenO]))
end Go.Ab.Td
