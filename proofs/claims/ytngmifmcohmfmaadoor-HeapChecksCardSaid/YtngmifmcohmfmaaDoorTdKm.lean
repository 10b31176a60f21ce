/- Joined texts: TdKj, TdKk, TdKl, TdKm. Under: nothing. -/
import Derived.Test.YtngmifmcohmfmaaDoorTdKi
import Derived.Test.YtngmifmcohmfmaaDoorTdRK
/- Valid heaps: the reference. Under: nothing. -/
namespace Go.Ab.Td
open Go Go.Ab
variable {P : Program}
set_option linter.unusedSimpArgs false
attribute [local irreducible] compat

set_option maxHeartbeats 1000000 in
set_option maxRecDepth 100000 in
theorem ok_ref11_Total (C : Laid P) (h : List Cl) (hl : h.length < 2 ^ 62) : OkC P G n_ref11_Total [.sl 7 (List.map encC h)] [] (pI (totFrom 0 h)) := by
  refine ok_fn C (k_ref11_Total C) rfl ?_
  repeat' (conv => whnf
           first
             | (with_reducible refine sC (by kernel_rfl) ?_)
             | ((first | with_reducible refine sB ?_ | with_reducible refine sG0 ?_ | with_reducible refine sG1 ?_ | refine sP (by rfl) ?_); first | refine oT ?_ | refine oF ?_ | (refine Or.inr (Or.inr ⟨fun hsp => ?_, fun hsp => ?_⟩) <;> (try simp only [eqO, Ob.eta, Cl.eta, tt_true, tt_false, decide_eq_true_eq, decide_eq_false_iff_not, beq_iff_eq, beq_eq_false_iff_ne, bne_iff_ne, ne_eq, Bool.not_eq_true, Bool.not_eq_false, Bool.not_eq_eq_eq_not, Bool.not_true, Bool.not_false, Decidable.not_not, Int.not_lt, Int.not_le, gt_iff_lt, ge_iff_le, bne_eq_false_iff_eq] at hsp) <;> try subst hsp))
             | fail)
  all_goals (conv => whnf)
  intro X hX hW
  refine loopI hX (fun st (a : Nat × Int) => st.upd [(3, .pv (pI a.2)), (4, .pv (pI (a.1 : Int)))] []) (fun a m => a.1 + m = h.length ∧ (totFrom 0 h = totFrom a.2 (h.drop a.1))) (0, 0) h.length (by (conv => whnf); first | done | rfl) (by simp) ?_
  intro m a ih hI
  rcases at_or h a.1 with ⟨x, hlt, hx⟩ | hge
  · have hrow := row_map (f := encC) hx
    have hd := drop_at hx
    have hI2 := hI.2
    rw [hd] at hI2
    simp only [totFrom] at hI2
    repeat' (conv => whnf
             first
               | (with_reducible refine sC (by kernel_rfl) ?_)
               | ((first | with_reducible refine sB ?_ | with_reducible refine sG0 ?_ | with_reducible refine sG1 ?_ | refine sP (by rfl) ?_); first | refine oT ?_ | refine oF ?_ | (refine Or.inr (Or.inr ⟨fun hsp => ?_, fun hsp => ?_⟩) <;> (try simp only [eqO, Ob.eta, Cl.eta, tt_true, tt_false, decide_eq_true_eq, decide_eq_false_iff_not, beq_iff_eq, beq_eq_false_iff_ne, bne_iff_ne, ne_eq, Bool.not_eq_true, Bool.not_eq_false, Bool.not_eq_eq_eq_not, Bool.not_true, Bool.not_false, Decidable.not_not, Int.not_lt, Int.not_le, gt_iff_lt, ge_iff_le, bne_eq_false_iff_eq, List.length_map] at hsp) <;> try subst hsp))
               | refine ⟨_, _, ok_ref11_Size_f C x.kind x.bytes x.items x.keys x.vals x.max x.at', ?_⟩
               | refine sS (iaddr_at (by rfl) (by rfl) (by omega) hrow) ?_
               | fail)
    all_goals (conv => whnf)
    all_goals first
      | (refine ih (m - 1) (a.1 + 1, (IntKind.i64.wrap (a.2 + x.size))) _ (by omega) ⟨by (try dsimp only); omega, ?_⟩ (by (conv => whnf); first | done | rfl | (simp (disch := omega) only [wrap_succ])))
      | (with_reducible first | refine le_int ?_ | refine tt_T ?_ | refine tt_F ?_)
      | (refine tt_B ?_; simp only [eqO, Ob.eta, Cl.eta, tt_true, tt_false, decide_eq_true_eq, decide_eq_false_iff_not, beq_iff_eq, beq_eq_false_iff_ne, bne_iff_ne, ne_eq, Bool.not_eq_true, Bool.not_eq_false, Bool.not_eq_eq_eq_not, Bool.not_true, Bool.not_false, Decidable.not_not, Int.not_lt, Int.not_le, gt_iff_lt, ge_iff_le, bne_eq_false_iff_eq])
      | refine le_of_eq ?_
    all_goals grind
  · have hd : h.drop a.1 = [] := List.drop_eq_nil_of_le hge
    have hI2 := hI.2
    rw [hd] at hI2
    simp only [totFrom] at hI2
    repeat' (conv => whnf
             first
               | (with_reducible refine sC (by kernel_rfl) ?_)
               | ((first | with_reducible refine sB ?_ | with_reducible refine sG0 ?_ | with_reducible refine sG1 ?_ | refine sP (by rfl) ?_); first | refine oT ?_ | refine oF ?_ | (refine Or.inr (Or.inr ⟨fun hsp => ?_, fun hsp => ?_⟩) <;> (try simp only [eqO, Ob.eta, Cl.eta, tt_true, tt_false, decide_eq_true_eq, decide_eq_false_iff_not, beq_iff_eq, beq_eq_false_iff_ne, bne_iff_ne, ne_eq, Bool.not_eq_true, Bool.not_eq_false, Bool.not_eq_eq_eq_not, Bool.not_true, Bool.not_false, Decidable.not_not, Int.not_lt, Int.not_le, gt_iff_lt, ge_iff_le, bne_eq_false_iff_eq, List.length_map] at hsp) <;> try subst hsp))
               | refine ⟨_, _, ok_ref11_Size_f C x.kind x.bytes x.items x.keys x.vals x.max x.at', ?_⟩
               | fail)
    all_goals (conv => whnf)
    all_goals first
      | (with_reducible first | refine le_int ?_ | refine tt_T ?_ | refine tt_F ?_)
      | (refine tt_B ?_; simp only [eqO, Ob.eta, Cl.eta, tt_true, tt_false, decide_eq_true_eq, decide_eq_false_iff_not, beq_iff_eq, beq_eq_false_iff_ne, bne_iff_ne, ne_eq, Bool.not_eq_true, Bool.not_eq_false, Bool.not_eq_eq_eq_not, Bool.not_true, Bool.not_false, Decidable.not_not, Int.not_lt, Int.not_le, gt_iff_lt, ge_iff_le, bne_eq_false_iff_eq])
      | refine le_of_eq ?_
    all_goals grind

set_option maxHeartbeats 1000000 in
set_option maxRecDepth 100000 in
theorem ok_ref11_fit (C : Laid P) (h : List Cl) (l : List Ob) (hl : l.length < 2 ^ 62) : OkC P G n_ref11_fit [.sl 7 (List.map encC h), .sl 7 (List.map encO l)] [] (.bool (tt (∀ o ∈ l, fits h o))) := by
  refine ok_fn C (k_ref11_fit C) rfl ?_
  repeat' (conv => whnf
           first
             | (with_reducible refine sC (by kernel_rfl) ?_)
             | ((first | with_reducible refine sB ?_ | with_reducible refine sG0 ?_ | with_reducible refine sG1 ?_ | refine sP (by rfl) ?_); first | refine oT ?_ | refine oF ?_ | (refine Or.inr (Or.inr ⟨fun hsp => ?_, fun hsp => ?_⟩) <;> (try simp only [eqO, Ob.eta, Cl.eta, tt_true, tt_false, decide_eq_true_eq, decide_eq_false_iff_not, beq_iff_eq, beq_eq_false_iff_ne, bne_iff_ne, ne_eq, Bool.not_eq_true, Bool.not_eq_false, Bool.not_eq_eq_eq_not, Bool.not_true, Bool.not_false, Decidable.not_not, Int.not_lt, Int.not_le, gt_iff_lt, ge_iff_le, bne_eq_false_iff_eq] at hsp) <;> try subst hsp))
             | fail)
  all_goals (conv => whnf)
  intro X hX hW
  refine loopI hX (fun st (a : Nat) => st.upd [(5, .pv (pI (a : Int)))] []) (fun a m => a + m = l.length ∧ ((∀ o ∈ l, fits h o) = (∀ o ∈ l.drop a, fits h o))) 0 l.length (by (conv => whnf); first | done | rfl) (by simp) ?_
  intro m i ih hI
  rcases at_or l i with ⟨x, hlt, hx⟩ | hge
  · have hrow := row_map (f := encO) hx
    have hd := drop_at hx
    have hI2 := hI.2
    rw [hd] at hI2
    repeat' (conv => whnf
             first
               | (with_reducible refine sC (by kernel_rfl) ?_)
               | ((first | with_reducible refine sB ?_ | with_reducible refine sG0 ?_ | with_reducible refine sG1 ?_ | refine sP (by rfl) ?_); first | refine oT ?_ | refine oF ?_ | (refine Or.inr (Or.inr ⟨fun hsp => ?_, fun hsp => ?_⟩) <;> (try simp only [eqO, Ob.eta, Cl.eta, tt_true, tt_false, decide_eq_true_eq, decide_eq_false_iff_not, beq_iff_eq, beq_eq_false_iff_ne, bne_iff_ne, ne_eq, Bool.not_eq_true, Bool.not_eq_false, Bool.not_eq_eq_eq_not, Bool.not_true, Bool.not_false, Decidable.not_not, Int.not_lt, Int.not_le, gt_iff_lt, ge_iff_le, bne_eq_false_iff_eq, List.length_map] at hsp) <;> try subst hsp))
               | refine ⟨_, _, ok_ref11_Fits C h x, ?_⟩
               | refine sS (iaddr_at (by rfl) (by rfl) (by omega) hrow) ?_
               | fail)
    all_goals (conv => whnf)
    all_goals first
      | (refine ih (m - 1) (i + 1) _ (by omega) ⟨by (try dsimp only); omega, ?_⟩ (by (conv => whnf); first | done | rfl | (simp (disch := omega) only [wrap_succ])))
      | (with_reducible first | refine le_int ?_ | refine tt_T ?_ | refine tt_F ?_)
      | (refine tt_B ?_; simp only [eqO, Ob.eta, Cl.eta, tt_true, tt_false, decide_eq_true_eq, decide_eq_false_iff_not, beq_iff_eq, beq_eq_false_iff_ne, bne_iff_ne, ne_eq, Bool.not_eq_true, Bool.not_eq_false, Bool.not_eq_eq_eq_not, Bool.not_true, Bool.not_false, Decidable.not_not, Int.not_lt, Int.not_le, gt_iff_lt, ge_iff_le, bne_eq_false_iff_eq])
      | refine le_of_eq ?_
    all_goals grind
  · have hd : l.drop i = [] := List.drop_eq_nil_of_le hge
    have hI2 := hI.2
    rw [hd] at hI2
    repeat' (conv => whnf
             first
               | (with_reducible refine sC (by kernel_rfl) ?_)
               | ((first | with_reducible refine sB ?_ | with_reducible refine sG0 ?_ | with_reducible refine sG1 ?_ | refine sP (by rfl) ?_); first | refine oT ?_ | refine oF ?_ | (refine Or.inr (Or.inr ⟨fun hsp => ?_, fun hsp => ?_⟩) <;> (try simp only [eqO, Ob.eta, Cl.eta, tt_true, tt_false, decide_eq_true_eq, decide_eq_false_iff_not, beq_iff_eq, beq_eq_false_iff_ne, bne_iff_ne, ne_eq, Bool.not_eq_true, Bool.not_eq_false, Bool.not_eq_eq_eq_not, Bool.not_true, Bool.not_false, Decidable.not_not, Int.not_lt, Int.not_le, gt_iff_lt, ge_iff_le, bne_eq_false_iff_eq, List.length_map] at hsp) <;> try subst hsp))
               | refine ⟨_, _, ok_ref11_Fits C h x, ?_⟩
               | fail)
    all_goals (conv => whnf)
    all_goals first
      | (with_reducible first | refine le_int ?_ | refine tt_T ?_ | refine tt_F ?_)
      | (refine tt_B ?_; simp only [eqO, Ob.eta, Cl.eta, tt_true, tt_false, decide_eq_true_eq, decide_eq_false_iff_not, beq_iff_eq, beq_eq_false_iff_ne, bne_iff_ne, ne_eq, Bool.not_eq_true, Bool.not_eq_false, Bool.not_eq_eq_eq_not, Bool.not_true, Bool.not_false, Decidable.not_not, Int.not_lt, Int.not_le, gt_iff_lt, ge_iff_le, bne_eq_false_iff_eq])
      | refine le_of_eq ?_
    all_goals grind
end Go.Ab.Td

/- Valid heaps: the reference, keys. Under: nothing. -/
namespace Go.Ab.Td
open Go Go.Ab
variable {P : Program}
set_option linter.unusedSimpArgs false
attribute [local irreducible] compat
/-- Keys, as the reference sees them. -/
def keyR (l : List Ob) (i : Nat) (k : Ob) : Prop := k.kind ≠ 0 ∧ k.kind ≠ 6 ∧ k.key = k ∧ (i : Int) ≤ idxFrom k 0 l
def keysR (l : List Ob) : Prop := ∀ (i : Nat) (k : Ob), l[i]? = some k → keyR l i k


set_option maxHeartbeats 2000000 in
set_option maxRecDepth 100000 in
theorem ok_ref11_keys (C : Laid P) (l : List Ob) (hl : l.length < 2 ^ 62) (hr : ∀ o ∈ l, o.right) : OkC P G n_ref11_keys [.sl 7 (List.map encO l)] [] (.bool (tt (keysR l))) := by
  refine ok_fn C (k_ref11_keys C) rfl ?_
  repeat' (conv => whnf
           first
             | (with_reducible refine sC (by kernel_rfl) ?_)
             | ((first | with_reducible refine sB ?_ | with_reducible refine sG0 ?_ | with_reducible refine sG1 ?_ | refine sP (by rfl) ?_); first | refine oT ?_ | refine oF ?_ | (refine Or.inr (Or.inr ⟨fun hsp => ?_, fun hsp => ?_⟩) <;> (try simp only [eqO, Ob.eta, Cl.eta, tt_true, tt_false, decide_eq_true_eq, decide_eq_false_iff_not, beq_iff_eq, beq_eq_false_iff_ne, bne_iff_ne, ne_eq, Bool.not_eq_true, Bool.not_eq_false, Bool.not_eq_eq_eq_not, Bool.not_true, Bool.not_false, Decidable.not_not, Int.not_lt, Int.not_le, gt_iff_lt, ge_iff_le, bne_eq_false_iff_eq] at hsp) <;> try subst hsp))
             | fail)
  all_goals (conv => whnf)
  intro X hX hW
  refine loopI hX (fun st (i : Nat) => st.upd [(3, .pv (pI (i : Int)))] []) (fun i k => i + k = l.length ∧ ∀ j, j < i → ∀ o, l[j]? = some o → keyR l j o) 0 l.length (by (conv => whnf); first | done | rfl) ⟨by simp, by intro j hj; omega⟩ ?_
  intro m i ih hI
  rcases at_or l i with ⟨x, hlt, hx⟩ | hge
  · have hrow := row_map (f := encO) hx
    by_cases hk : keyR l i x
    · obtain ⟨q1, q2, q3, q4⟩ := id hk
      repeat' (conv => whnf
               first
                 | (with_reducible refine sC (by kernel_rfl) ?_)
                 | ((first | with_reducible refine sB ?_ | with_reducible refine sG0 ?_ | with_reducible refine sG1 ?_ | refine sP (by rfl) ?_); first | refine Or.inl ⟨by first | assumption | (simp only [eqO, Ob.eta, Cl.eta, tt_true, tt_false, decide_eq_true_eq, decide_eq_false_iff_not, beq_iff_eq, beq_eq_false_iff_ne, bne_iff_ne, ne_eq, Bool.not_eq_true, Bool.not_eq_false, Bool.not_eq_eq_eq_not, Bool.not_true, Bool.not_false, Decidable.not_not, Int.not_lt, Int.not_le, gt_iff_lt, ge_iff_le, bne_eq_false_iff_eq, List.length_map, q3]; first | done | assumption | omega), ?_⟩ | refine Or.inr (Or.inl ⟨by first | assumption | (simp only [eqO, Ob.eta, Cl.eta, tt_true, tt_false, decide_eq_true_eq, decide_eq_false_iff_not, beq_iff_eq, beq_eq_false_iff_ne, bne_iff_ne, ne_eq, Bool.not_eq_true, Bool.not_eq_false, Bool.not_eq_eq_eq_not, Bool.not_true, Bool.not_false, Decidable.not_not, Int.not_lt, Int.not_le, gt_iff_lt, ge_iff_le, bne_eq_false_iff_eq, List.length_map, q3]; first | done | assumption | omega), ?_⟩) | (refine Or.inr (Or.inr ⟨fun hsp => ?_, fun hsp => ?_⟩) <;> (try simp only [eqO, Ob.eta, Cl.eta, tt_true, tt_false, decide_eq_true_eq, decide_eq_false_iff_not, beq_iff_eq, beq_eq_false_iff_ne, bne_iff_ne, ne_eq, Bool.not_eq_true, Bool.not_eq_false, Bool.not_eq_eq_eq_not, Bool.not_true, Bool.not_false, Decidable.not_not, Int.not_lt, Int.not_le, gt_iff_lt, ge_iff_le, bne_eq_false_iff_eq, List.length_map, q3] at hsp) <;> try subst hsp))
                 | refine ⟨_, _, ok_ref10_Key C x (hr x (List.mem_of_getElem? hx)), ?_⟩
                 | refine ⟨_, _, ok_ref11_index C l x hl, ?_⟩
                 | refine sS (iaddr_at (by rfl) (by rfl) (by omega) hrow) ?_
                 | fail)
      all_goals (conv => whnf)
      all_goals first
        | (refine ih (m - 1) (i + 1) _ (by omega) ⟨by (try dsimp only); omega, ?_⟩ (by (conv => whnf); first | done | rfl | (simp (disch := omega) only [wrap_succ])); intro j hj c hc; by_cases e : j < i; (· exact hI.2 j e c hc); have e2 : j = i := (by omega); subst e2; rw [hx] at hc; cases hc; exact hk)
        | (exfalso; first | omega | grind)
    · have hno : ¬ keysR l := fun hp => hk (hp i x hx)
      repeat' (conv => whnf
               first
                 | (with_reducible refine sC (by kernel_rfl) ?_)
                 | ((first | with_reducible refine sB ?_ | with_reducible refine sG0 ?_ | with_reducible refine sG1 ?_ | refine sP (by rfl) ?_); first | refine oT ?_ | refine oF ?_ | (refine Or.inr (Or.inr ⟨fun hsp => ?_, fun hsp => ?_⟩) <;> (try simp only [eqO, Ob.eta, Cl.eta, tt_true, tt_false, decide_eq_true_eq, decide_eq_false_iff_not, beq_iff_eq, beq_eq_false_iff_ne, bne_iff_ne, ne_eq, Bool.not_eq_true, Bool.not_eq_false, Bool.not_eq_eq_eq_not, Bool.not_true, Bool.not_false, Decidable.not_not, Int.not_lt, Int.not_le, gt_iff_lt, ge_iff_le, bne_eq_false_iff_eq, List.length_map] at hsp) <;> try subst hsp))
                 | refine ⟨_, _, ok_ref10_Key C x (hr x (List.mem_of_getElem? hx)), ?_⟩
                 | refine ⟨_, _, ok_ref11_index C l x hl, ?_⟩
                 | refine sS (iaddr_at (by rfl) (by rfl) (by omega) hrow) ?_
                 | fail)
      all_goals (conv => whnf)
      all_goals first
        | exact tt_F hno
        | (exfalso; apply hk; unfold keyR; refine ⟨?_, ?_, ?_, ?_⟩ <;> first | assumption | omega | grind)
  · repeat' (conv => whnf
             first
               | (with_reducible refine sC (by kernel_rfl) ?_)
               | ((first | with_reducible refine sB ?_ | with_reducible refine sG0 ?_ | with_reducible refine sG1 ?_ | refine sP (by rfl) ?_); first | refine oT ?_ | refine oF ?_ | (refine Or.inr (Or.inr ⟨fun hsp => ?_, fun hsp => ?_⟩) <;> (try simp only [eqO, Ob.eta, Cl.eta, tt_true, tt_false, decide_eq_true_eq, decide_eq_false_iff_not, beq_iff_eq, beq_eq_false_iff_ne, bne_iff_ne, ne_eq, Bool.not_eq_true, Bool.not_eq_false, Bool.not_eq_eq_eq_not, Bool.not_true, Bool.not_false, Decidable.not_not, Int.not_lt, Int.not_le, gt_iff_lt, ge_iff_le, bne_eq_false_iff_eq, List.length_map] at hsp) <;> try subst hsp))
               | fail)
    all_goals (conv => whnf)
    all_goals exact tt_T (fun q k hq => hI.2 q (by have := (List.getElem?_eq_some_iff.1 hq).1; omega) k hq)
end Go.Ab.Td

/- Valid heaps: the reference, cells. Under: nothing. -/
namespace Go.Ab.Td
open Go Go.Ab
variable {P : Program}
set_option linter.unusedSimpArgs false
attribute [local irreducible] compat
/-- A cell that is valid in a heap, as the reference sees it. -/
def cellR (h : List Cl) (c : Cl) : Prop :=
  (c.kind = 1 ∧ (c.bytes.length ≤ 1000 ∧ c.items.length = 0 ∧ c.keys.length = 0 ∧ c.vals.length = 0 ∧ c.max = 0 ∧ c.at' = 0)) ∨
  (c.kind = 2 ∧ (c.bytes = [] ∧ c.items.length ≤ 1000 ∧ (∀ o ∈ c.items, fits h o) ∧ c.keys.length = 0 ∧ c.vals.length = 0 ∧ c.max = 0 ∧ c.at' = 0)) ∨
  (c.kind = 3 ∧ (c.bytes = [] ∧ c.items.length = 0 ∧ c.at' = 0 ∧ 0 ≤ c.max ∧ c.max ≤ 200 ∧ c.keys.length = c.vals.length ∧ (c.keys.length : Int) ≤ c.max ∧ (∀ o ∈ c.keys, fits h o) ∧ (∀ o ∈ c.vals, fits h o) ∧ keysR c.keys)) ∨
  (c.kind = 4 ∧ (c.bytes.length ≤ 4000 ∧ c.items.length = 0 ∧ c.keys.length = 0 ∧ c.vals.length = 0 ∧ 0 ≤ c.at' ∧ c.at' ≤ c.bytes.length ∧ (c.max = 0 ∨ c.max = 1)))


set_option maxHeartbeats 1000000 in
set_option maxRecDepth 100000 in
theorem ok_ref11_Cell_plain (C : Laid P) (h : List Cl) (c : Cl) (hs : c.small) (h3 : c.kind ≠ 3) : OkC P G n_ref11_Cell [.sl 7 (List.map encC h), aC c] [] (.bool (tt (cellR h c))) := by
  refine ok_fn C (k_ref11_Cell C) rfl ?_
  obtain ⟨s1, s2, s3, s4⟩ := hs
  have kI := ok_ref11_fit C h c.items (by omega)
  have kA := ok_ref11_fit C h c.keys (by omega)
  have kV := ok_ref11_fit C h c.vals (by omega)
  have q : (c.kind = 1 ∧ cellR h c = (c.bytes.length ≤ 1000 ∧ c.items.length = 0 ∧ c.keys.length = 0 ∧ c.vals.length = 0 ∧ c.max = 0 ∧ c.at' = 0)) ∨ (c.kind = 2 ∧ cellR h c = (c.bytes = [] ∧ c.items.length ≤ 1000 ∧ (∀ o ∈ c.items, fits h o) ∧ c.keys.length = 0 ∧ c.vals.length = 0 ∧ c.max = 0 ∧ c.at' = 0)) ∨
    (c.kind = 4 ∧ cellR h c = (c.bytes.length ≤ 4000 ∧ c.items.length = 0 ∧ c.keys.length = 0 ∧ c.vals.length = 0 ∧ 0 ≤ c.at' ∧ c.at' ≤ c.bytes.length ∧ (c.max = 0 ∨ c.max = 1))) ∨ ((c.kind ≠ 1 ∧ c.kind ≠ 2 ∧ c.kind ≠ 3 ∧ c.kind ≠ 4) ∧ cellR h c = False) := by
    by_cases h1 : c.kind = 1
    · exact .inl ⟨h1, by simp [cellR, h1]⟩
    by_cases h2 : c.kind = 2
    · exact .inr (.inl ⟨h2, by simp [cellR, h2]⟩)
    by_cases h4 : c.kind = 4
    · exact .inr (.inr (.inl ⟨h4, by simp [cellR, h4]⟩))
    · exact .inr (.inr (.inr ⟨⟨h1, h2, h3, h4⟩, by simp [cellR, h1, h2, h3, h4]⟩))
  rcases q with ⟨hk, e⟩ | ⟨hk, e⟩ | ⟨hk, e⟩ | ⟨hk, e⟩
  all_goals rw [e]
  repeat' (conv => whnf
           first
             | (with_reducible refine sC (by kernel_rfl) ?_)
             | ((first | with_reducible refine sB ?_ | with_reducible refine sG0 ?_ | with_reducible refine sG1 ?_ | refine sP (by rfl) ?_); first | refine oT ?_ | refine oF ?_ | (refine Or.inr (Or.inr ⟨fun hsp => ?_, fun hsp => ?_⟩) <;> (try simp only [eqO, Ob.eta, Cl.eta, tt_true, tt_false, decide_eq_true_eq, decide_eq_false_iff_not, beq_iff_eq, beq_eq_false_iff_ne, bne_iff_ne, ne_eq, Bool.not_eq_true, Bool.not_eq_false, Bool.not_eq_eq_eq_not, Bool.not_true, Bool.not_false, Decidable.not_not, Int.not_lt, Int.not_le, gt_iff_lt, ge_iff_le, bne_eq_false_iff_eq, List.length_map] at hsp) <;> try subst hsp))
             | refine ⟨_, _, kI, ?_⟩
             | fail)
  all_goals (conv => whnf)
  all_goals (first | (with_reducible refine tt_T ?_) | (with_reducible refine tt_F ?_) | (refine tt_B ?_; try simp (disch := omega) only [eqO, Ob.eta, Cl.eta, tt_true, tt_false, decide_eq_true_eq, decide_eq_false_iff_not, beq_iff_eq, beq_eq_false_iff_ne, bne_iff_ne, ne_eq, Bool.not_eq_true, Bool.not_eq_false, Bool.not_eq_eq_eq_not, Bool.not_true, Bool.not_false, Decidable.not_not, Int.not_lt, Int.not_le, gt_iff_lt, ge_iff_le, bne_eq_false_iff_eq, wrap_small, List.length_map])) <;> (first | omega | grind)
end Go.Ab.Td

/- Valid heaps: the reference, dictionaries. Under: nothing. -/
namespace Go.Ab.Td
open Go Go.Ab
variable {P : Program}
set_option linter.unusedSimpArgs false
attribute [local irreducible] compat

set_option maxHeartbeats 1000000 in
set_option maxRecDepth 100000 in
theorem ok_ref11_Cell_dict (C : Laid P) (h : List Cl) (c : Cl) (hs : c.small) (h3 : c.kind = 3) : OkC P G n_ref11_Cell [.sl 7 (List.map encC h), aC c] [] (.bool (tt (cellR h c))) := by
  refine ok_fn C (k_ref11_Cell C) rfl ?_
  obtain ⟨s1, s2, s3, s4⟩ := hs
  have kA := ok_ref11_fit C h c.keys (by omega)
  have kV := ok_ref11_fit C h c.vals (by omega)
  have e : cellR h c = (c.bytes = [] ∧ c.items.length = 0 ∧ c.at' = 0 ∧ 0 ≤ c.max ∧ c.max ≤ 200 ∧ c.keys.length = c.vals.length ∧ (c.keys.length : Int) ≤ c.max ∧ (∀ o ∈ c.keys, fits h o) ∧ (∀ o ∈ c.vals, fits h o) ∧ keysR c.keys) := by simp [cellR, h3]
  rw [e]
  clear e
  by_cases hA : ∀ o ∈ c.keys, fits h o
  · rw [show tt (∀ o ∈ c.keys, fits h o) = true from tt_true.mpr hA] at kA
    have kK := ok_ref11_keys C c.keys (by omega) (fun o ho => (hA o ho).1)
    by_cases hV : ∀ o ∈ c.vals, fits h o
    · rw [show tt (∀ o ∈ c.vals, fits h o) = true from tt_true.mpr hV] at kV
      by_cases hK : keysR c.keys
      · rw [show tt (keysR c.keys) = true from tt_true.mpr hK] at kK
        repeat' (conv => whnf
                 first
                   | (with_reducible refine sC (by kernel_rfl) ?_)
                   | ((first | with_reducible refine sB ?_ | with_reducible refine sG0 ?_ | with_reducible refine sG1 ?_ | refine sP (by rfl) ?_); first | refine oT ?_ | refine oF ?_ | (refine Or.inr (Or.inr ⟨fun hsp => ?_, fun hsp => ?_⟩) <;> (try simp only [eqO, Ob.eta, Cl.eta, tt_true, tt_false, decide_eq_true_eq, decide_eq_false_iff_not, beq_iff_eq, beq_eq_false_iff_ne, bne_iff_ne, ne_eq, Bool.not_eq_true, Bool.not_eq_false, Bool.not_eq_eq_eq_not, Bool.not_true, Bool.not_false, Decidable.not_not, Int.not_lt, Int.not_le, gt_iff_lt, ge_iff_le, bne_eq_false_iff_eq, List.length_map] at hsp) <;> try subst hsp))
                   | refine ⟨_, _, kA, ?_⟩
                   | refine ⟨_, _, kV, ?_⟩
                   | refine ⟨_, _, kK, ?_⟩
                   | fail)
        all_goals (conv => whnf)
        all_goals (first | (with_reducible refine tt_T ?_) | (with_reducible refine tt_F ?_) | (refine tt_B ?_; try simp (disch := omega) only [eqO, Ob.eta, Cl.eta, tt_true, tt_false, decide_eq_true_eq, decide_eq_false_iff_not, beq_iff_eq, beq_eq_false_iff_ne, bne_iff_ne, ne_eq, Bool.not_eq_true, Bool.not_eq_false, Bool.not_eq_eq_eq_not, Bool.not_true, Bool.not_false, Decidable.not_not, Int.not_lt, Int.not_le, gt_iff_lt, ge_iff_le, bne_eq_false_iff_eq, wrap_small, List.length_map])) <;> (first | omega | grind)
      · rw [show tt (keysR c.keys) = false from tt_false.mpr hK] at kK
        repeat' (conv => whnf
                 first
                   | (with_reducible refine sC (by kernel_rfl) ?_)
                   | ((first | with_reducible refine sB ?_ | with_reducible refine sG0 ?_ | with_reducible refine sG1 ?_ | refine sP (by rfl) ?_); first | refine oT ?_ | refine oF ?_ | (refine Or.inr (Or.inr ⟨fun hsp => ?_, fun hsp => ?_⟩) <;> (try simp only [eqO, Ob.eta, Cl.eta, tt_true, tt_false, decide_eq_true_eq, decide_eq_false_iff_not, beq_iff_eq, beq_eq_false_iff_ne, bne_iff_ne, ne_eq, Bool.not_eq_true, Bool.not_eq_false, Bool.not_eq_eq_eq_not, Bool.not_true, Bool.not_false, Decidable.not_not, Int.not_lt, Int.not_le, gt_iff_lt, ge_iff_le, bne_eq_false_iff_eq, List.length_map] at hsp) <;> try subst hsp))
                   | refine ⟨_, _, kA, ?_⟩
                   | refine ⟨_, _, kV, ?_⟩
                   | refine ⟨_, _, kK, ?_⟩
                   | fail)
        all_goals (conv => whnf)
        all_goals exact tt_F (fun hp => hK hp.2.2.2.2.2.2.2.2.2)
    · rw [show tt (∀ o ∈ c.vals, fits h o) = false from tt_false.mpr hV] at kV
      repeat' (conv => whnf
               first
                 | (with_reducible refine sC (by kernel_rfl) ?_)
                 | ((first | with_reducible refine sB ?_ | with_reducible refine sG0 ?_ | with_reducible refine sG1 ?_ | refine sP (by rfl) ?_); first | refine oT ?_ | refine oF ?_ | (refine Or.inr (Or.inr ⟨fun hsp => ?_, fun hsp => ?_⟩) <;> (try simp only [eqO, Ob.eta, Cl.eta, tt_true, tt_false, decide_eq_true_eq, decide_eq_false_iff_not, beq_iff_eq, beq_eq_false_iff_ne, bne_iff_ne, ne_eq, Bool.not_eq_true, Bool.not_eq_false, Bool.not_eq_eq_eq_not, Bool.not_true, Bool.not_false, Decidable.not_not, Int.not_lt, Int.not_le, gt_iff_lt, ge_iff_le, bne_eq_false_iff_eq, List.length_map] at hsp) <;> try subst hsp))
                 | refine ⟨_, _, kA, ?_⟩
                 | refine ⟨_, _, kV, ?_⟩
                 | refine ⟨_, _, kK, ?_⟩
                 | fail)
      all_goals (conv => whnf)
      all_goals exact tt_F (fun hp => hV hp.2.2.2.2.2.2.2.2.1)
  · rw [show tt (∀ o ∈ c.keys, fits h o) = false from tt_false.mpr hA] at kA
    repeat' (conv => whnf
             first
               | (with_reducible refine sC (by kernel_rfl) ?_)
               | ((first | with_reducible refine sB ?_ | with_reducible refine sG0 ?_ | with_reducible refine sG1 ?_ | refine sP (by rfl) ?_); first | refine oT ?_ | refine oF ?_ | (refine Or.inr (Or.inr ⟨fun hsp => ?_, fun hsp => ?_⟩) <;> (try simp only [eqO, Ob.eta, Cl.eta, tt_true, tt_false, decide_eq_true_eq, decide_eq_false_iff_not, beq_iff_eq, beq_eq_false_iff_ne, bne_iff_ne, ne_eq, Bool.not_eq_true, Bool.not_eq_false, Bool.not_eq_eq_eq_not, Bool.not_true, Bool.not_false, Decidable.not_not, Int.not_lt, Int.not_le, gt_iff_lt, ge_iff_le, bne_eq_false_iff_eq, List.length_map] at hsp) <;> try subst hsp))
               | refine ⟨_, _, kA, ?_⟩
               | refine ⟨_, _, kV, ?_⟩
               | fail)
    all_goals (conv => whnf)
    all_goals exact tt_F (fun hp => hA hp.2.2.2.2.2.2.2.1)
end Go.Ab.Td
