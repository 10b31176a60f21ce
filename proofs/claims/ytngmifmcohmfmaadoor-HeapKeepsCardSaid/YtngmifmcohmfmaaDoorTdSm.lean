/- Same cells, same heaps. Under: nothing. -/
import Derived.Test.YtngmifmcohmfmaaDoorTdLr
namespace Go.Ab.Td
open Go Go.Ab
variable {P : Program}
set_option linter.unusedSimpArgs false
attribute [local irreducible] compat
theorem Cl.ext' (a b : Cl) : (a = b) = (a.kind = b.kind ∧ a.bytes = b.bytes ∧ a.items = b.items ∧ a.keys = b.keys ∧ a.vals = b.vals ∧ a.max = b.max ∧ a.at' = b.at') := by
  cases a; cases b; simp
/-- Lists that can be walked. -/
def bigC (c : Cl) : Prop := c.keys.length < 2 ^ 62 ∧ c.vals.length < 2 ^ 62 ∧ c.items.length < 2 ^ 62
def big (h : List Cl) : Prop := h.length < 2 ^ 62 ∧ ∀ c ∈ h, bigC c
set_option maxHeartbeats 1000000 in
set_option maxRecDepth 100000 in
theorem ok_ref11_SameCell (C : Laid P) (a b : Cl) (ha : bigC a) : OkC P G n_ref11_SameCell [aC a, aC b] [] (.bool (tt (a = b))) := by
  refine ok_fn C (k_ref11_SameCell C) rfl ?_
  obtain ⟨h1, h2, h3⟩ := ha
  have he := Cl.ext' a b
  repeat' (conv => whnf
           first
             | (with_reducible refine sC (by kernel_rfl) ?_)
             | ((first | with_reducible refine sB ?_ | with_reducible refine sG0 ?_ | with_reducible refine sG1 ?_ | refine sP (by rfl) ?_); first | refine oT ?_ | refine oF ?_ | (refine Or.inr (Or.inr ⟨fun hsp => ?_, fun hsp => ?_⟩) <;> (try simp only [eqO, Ob.eta, Cl.eta, tt_true, tt_false, decide_eq_true_eq, decide_eq_false_iff_not, beq_iff_eq, beq_eq_false_iff_ne, bne_iff_ne, ne_eq, Bool.not_eq_true, Bool.not_eq_false, Bool.not_eq_eq_eq_not, Bool.not_true, Bool.not_false, Decidable.not_not, Int.not_lt, Int.not_le, gt_iff_lt, ge_iff_le, bne_eq_false_iff_eq, List.length_map] at hsp) <;> try subst hsp))
             | refine ⟨_, _, ok_ref11_sameObjs C a.items b.items (by assumption), ?_⟩
             | refine ⟨_, _, ok_ref11_sameObjs C a.keys b.keys (by assumption), ?_⟩
             | refine ⟨_, _, ok_ref11_sameObjs C a.vals b.vals (by assumption), ?_⟩
             | fail)
  all_goals (conv => whnf)
  all_goals (first | (with_reducible refine tt_T ?_) | (with_reducible refine tt_F ?_) | (refine tt_B ?_; try simp (disch := omega) only [eqO, Ob.eta, Cl.eta, tt_true, tt_false, decide_eq_true_eq, decide_eq_false_iff_not, beq_iff_eq, beq_eq_false_iff_ne, bne_iff_ne, ne_eq, Bool.not_eq_true, Bool.not_eq_false, Bool.not_eq_eq_eq_not, Bool.not_true, Bool.not_false, Decidable.not_not, Int.not_lt, Int.not_le, gt_iff_lt, ge_iff_le, bne_eq_false_iff_eq, wrap_small])) <;> (grind)
set_option maxHeartbeats 1000000 in
set_option maxRecDepth 100000 in
theorem ok_ref11_Same (C : Laid P) (l1 l2 : List Cl) (hs : big l1) : OkC P G n_ref11_Same [.sl 7 (List.map encC l1), .sl 7 (List.map encC l2)] [] (.bool (tt (l1 = l2))) := by
  refine ok_fn C (k_ref11_Same C) rfl ?_
  obtain ⟨hl, hs1⟩ := hs
  repeat' (conv => whnf
           first
             | (with_reducible refine sC (by kernel_rfl) ?_)
             | ((first | with_reducible refine sB ?_ | with_reducible refine sG0 ?_ | with_reducible refine sG1 ?_ | refine sP (by rfl) ?_); first | refine oT ?_ | refine oF ?_ | (refine Or.inr (Or.inr ⟨fun hsp => ?_, fun hsp => ?_⟩) <;> (try simp only [eqO, Ob.eta, Cl.eta, tt_true, tt_false, decide_eq_true_eq, decide_eq_false_iff_not, beq_iff_eq, beq_eq_false_iff_ne, bne_iff_ne, ne_eq, Bool.not_eq_true, Bool.not_eq_false, Bool.not_eq_eq_eq_not, Bool.not_true, Bool.not_false, Decidable.not_not, Int.not_lt, Int.not_le, gt_iff_lt, ge_iff_le, bne_eq_false_iff_eq, List.length_map] at hsp) <;> try subst hsp))
             | fail)
  all_goals (conv => whnf)
  all_goals try (exact tt_F (by intro e; subst e; simp_all))
  intro X hX hW
  refine loopI hX (fun st (a : Nat) => st.upd [(5, .pv (pI (a : Int)))] []) (fun a m => a + m = l1.length ∧ (l1.length = l2.length ∧ ((l1 = l2) = (l1.drop a = l2.drop a)))) 0 l1.length (by (conv => whnf); first | done | rfl) (by simp; omega) ?_
  intro m i ih hI
  rcases at_or l1 i with ⟨x, hlt, hx⟩ | hge
  · have hrow := row_map (f := encC) hx
    have hd := drop_at hx
    have hI2 := hI.2
    rw [hd] at hI2
    obtain ⟨y, hy⟩ : ∃ y, l2[i]? = some y := ⟨_, List.getElem?_eq_getElem (by omega)⟩
    have hrow2 := row_map (f := encC) hy
    have hd2 := drop_at hy
    rw [hd2, List.cons.injEq] at hI2
    have hxs := hs1 x (List.mem_of_getElem? hx)
    repeat' (conv => whnf
             first
               | (with_reducible refine sC (by kernel_rfl) ?_)
               | ((first | with_reducible refine sB ?_ | with_reducible refine sG0 ?_ | with_reducible refine sG1 ?_ | refine sP (by rfl) ?_); first | refine oT ?_ | refine oF ?_ | (refine Or.inr (Or.inr ⟨fun hsp => ?_, fun hsp => ?_⟩) <;> (try simp only [eqO, Ob.eta, Cl.eta, tt_true, tt_false, decide_eq_true_eq, decide_eq_false_iff_not, beq_iff_eq, beq_eq_false_iff_ne, bne_iff_ne, ne_eq, Bool.not_eq_true, Bool.not_eq_false, Bool.not_eq_eq_eq_not, Bool.not_true, Bool.not_false, Decidable.not_not, Int.not_lt, Int.not_le, gt_iff_lt, ge_iff_le, bne_eq_false_iff_eq, List.length_map] at hsp) <;> try subst hsp))
               | refine ⟨_, _, ok_ref11_SameCell C x y hxs, ?_⟩
               | refine sS (iaddr_at (by rfl) (by rfl) (by omega) hrow) ?_
               | refine sS (iaddr_at (by rfl) (by rfl) (by omega) hrow2) ?_
               | fail)
    all_goals (conv => whnf)
    all_goals first
      | (refine ih (m - 1) (i + 1) _ (by omega) ⟨by (try dsimp only); omega, ?_⟩ (by (conv => whnf); first | done | rfl | (simp (disch := omega) only [wrap_succ])))
      | (with_reducible first | refine le_int ?_ | refine tt_T ?_ | refine tt_F ?_)
      | (refine tt_B ?_; simp only [eqO, Ob.eta, Cl.eta, tt_true, tt_false, decide_eq_true_eq, decide_eq_false_iff_not, beq_iff_eq, beq_eq_false_iff_ne, bne_iff_ne, ne_eq, Bool.not_eq_true, Bool.not_eq_false, Bool.not_eq_eq_eq_not, Bool.not_true, Bool.not_false, Decidable.not_not, Int.not_lt, Int.not_le, gt_iff_lt, ge_iff_le, bne_eq_false_iff_eq])
      | refine le_of_eq ?_
    all_goals (first | (have hd2 : l2.drop i = [] := List.drop_eq_nil_of_le (by omega); grind) | grind)
  · have hd : l1.drop i = [] := List.drop_eq_nil_of_le hge
    have hI2 := hI.2
    rw [hd] at hI2
    repeat' (conv => whnf
             first
               | (with_reducible refine sC (by kernel_rfl) ?_)
               | ((first | with_reducible refine sB ?_ | with_reducible refine sG0 ?_ | with_reducible refine sG1 ?_ | refine sP (by rfl) ?_); first | refine oT ?_ | refine oF ?_ | (refine Or.inr (Or.inr ⟨fun hsp => ?_, fun hsp => ?_⟩) <;> (try simp only [eqO, Ob.eta, Cl.eta, tt_true, tt_false, decide_eq_true_eq, decide_eq_false_iff_not, beq_iff_eq, beq_eq_false_iff_ne, bne_iff_ne, ne_eq, Bool.not_eq_true, Bool.not_eq_false, Bool.not_eq_eq_eq_not, Bool.not_true, Bool.not_false, Decidable.not_not, Int.not_lt, Int.not_le, gt_iff_lt, ge_iff_le, bne_eq_false_iff_eq, List.length_map] at hsp) <;> try subst hsp))
               | refine ⟨_, _, ok_ref11_SameCell C x y hxs, ?_⟩
               | fail)
    all_goals (conv => whnf)
    all_goals first
      | (with_reducible first | refine le_int ?_ | refine tt_T ?_ | refine tt_F ?_)
      | (refine tt_B ?_; simp only [eqO, Ob.eta, Cl.eta, tt_true, tt_false, decide_eq_true_eq, decide_eq_false_iff_not, beq_iff_eq, beq_eq_false_iff_ne, bne_iff_ne, ne_eq, Bool.not_eq_true, Bool.not_eq_false, Bool.not_eq_eq_eq_not, Bool.not_true, Bool.not_false, Decidable.not_not, Int.not_lt, Int.not_le, gt_iff_lt, ge_iff_le, bne_eq_false_iff_eq])
      | refine le_of_eq ?_
    all_goals (first | (have hd2 : l2.drop i = [] := List.drop_eq_nil_of_le (by omega); grind) | grind)
end Go.Ab.Td
