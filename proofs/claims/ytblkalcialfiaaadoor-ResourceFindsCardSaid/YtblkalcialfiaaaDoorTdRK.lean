/- Joined texts: TdRE, TdRF, TdRG, TdRH, TdRI, TdRK. Under: nothing. -/
import Derived.Test.YtblkalcialfiaaaDoorTdRD
/- The reference: operands replaced, resources. Under: nothing. -/
namespace Go.Ab.Td
open Go Go.Ab
variable {P : Program}
set_option linter.unusedSimpArgs false
attribute [local irreducible] compat

set_option maxHeartbeats 1000000 in
set_option maxRecDepth 100000 in
theorem ok_ref12_Instead (C : Laid P) (s : Sta) (n : Int) (l : List Ob) (h0 : 0 ≤ n) (h1 : n ≤ s.ops.length) (h2 : s.ops.length - n + l.length ≤ 100) (h3 : s.ops.length ≤ 1000000) (h4 : l.length ≤ 1000000) : OkC P G n_ref12_Instead [aS s, pI n, .sl 7 (List.map encO l)] [] (.tup [aS {s with ops := s.ops.take (s.ops.length - n.toNat) ++ l}, pI 0]) := by
  refine ok_fn C (k_ref12_Instead C) rfl ?_
  have hw : IntKind.i64.wrap ((s.ops.length : Int) - n) = (s.ops.length : Int) - n := wrap_small (by omega) (by omega)
  have hw2 : IntKind.i64.wrap ((s.ops.length : Int) - n + l.length) = (s.ops.length : Int) - n + l.length := wrap_small (by omega) (by omega)
  have ht : ((s.ops.length : Int) - n).toNat = s.ops.length - n.toNat := by omega
  repeat' (conv => whnf
           first
             | (with_reducible refine sC (by kernel_rfl) ?_)
             | ((first | with_reducible refine sB ?_ | with_reducible refine sG0 ?_ | with_reducible refine sG1 ?_ | refine sP (by rfl) ?_); first | refine Or.inl ⟨by first | assumption | (simp only [eqO, Ob.eta, Cl.eta, tt_true, tt_false, decide_eq_true_eq, decide_eq_false_iff_not, beq_iff_eq, beq_eq_false_iff_ne, bne_iff_ne, ne_eq, Bool.not_eq_true, Bool.not_eq_false, Bool.not_eq_eq_eq_not, Bool.not_true, Bool.not_false, Decidable.not_not, Int.not_lt, Int.not_le, gt_iff_lt, ge_iff_le, bne_eq_false_iff_eq, List.length_map, hw, hw2]; first | done | assumption | omega), ?_⟩ | refine Or.inr (Or.inl ⟨by first | assumption | (simp only [eqO, Ob.eta, Cl.eta, tt_true, tt_false, decide_eq_true_eq, decide_eq_false_iff_not, beq_iff_eq, beq_eq_false_iff_ne, bne_iff_ne, ne_eq, Bool.not_eq_true, Bool.not_eq_false, Bool.not_eq_eq_eq_not, Bool.not_true, Bool.not_false, Decidable.not_not, Int.not_lt, Int.not_le, gt_iff_lt, ge_iff_le, bne_eq_false_iff_eq, List.length_map, hw, hw2]; first | done | assumption | omega), ?_⟩) | (refine Or.inr (Or.inr ⟨fun hsp => ?_, fun hsp => ?_⟩) <;> (try simp only [eqO, Ob.eta, Cl.eta, tt_true, tt_false, decide_eq_true_eq, decide_eq_false_iff_not, beq_iff_eq, beq_eq_false_iff_ne, bne_iff_ne, ne_eq, Bool.not_eq_true, Bool.not_eq_false, Bool.not_eq_eq_eq_not, Bool.not_true, Bool.not_false, Decidable.not_not, Int.not_lt, Int.not_le, gt_iff_lt, ge_iff_le, bne_eq_false_iff_eq, List.length_map, hw, hw2] at hsp) <;> try subst hsp))
             | refine sS (slice_M (by rfl) (by rfl) (by rfl) (by omega) (by simp only [List.length_map, hw]; omega) (by simp only [List.length_map, hw]; omega)) ?_
             | refine sS (append_eM (f := encO) (by rfl) (by first | exact prows_pv | exact prows_fsl | exact prows_own (by rfl) (by rfl)) (by rfl) (by simp only [List.length_map, hw, ht, List.length_drop, List.length_take]; omega)) ?_
             | refine sS (append_oM (f := encO) (x' := l) (by rfl) (by rfl) (by rfl) (by first | exact prows_pv | exact prows_fsl | exact prows_own (by rfl) (by rfl)) (by rfl) (by simp only [List.length_map, hw, ht, List.length_drop, List.length_take]; omega)) ?_
             | fail)
  all_goals (conv => whnf)
  all_goals (refine le_tup (LeL.cons ?_ (LeL.refl _)); refine le_agg (LeL.cons (le_sle ?_) (LeL.refl _)); simp only [List.length_map, hw, ht]; simp; exact List.take_of_length_le (by simp))
set_option maxHeartbeats 1000000 in
set_option maxRecDepth 100000 in
theorem ok_ref18_Suits (C : Laid P) (c : List UInt8) (o : Ob) : OkC P G n_ref18_Suits [.str c, aO o] [] (.bool (tt (suitsP c o))) := by
  refine ok_fn C (k_ref18_Suits C) rfl ?_
  repeat' (conv => whnf
           first
             | (with_reducible refine sC (by kernel_rfl) ?_)
             | ((first | with_reducible refine sB ?_ | with_reducible refine sG0 ?_ | with_reducible refine sG1 ?_ | refine sP (by rfl) ?_); first | refine Or.inl ⟨by first | assumption | (simp only [eqO, Ob.eta, Cl.eta, tt_true, tt_false, decide_eq_true_eq, decide_eq_false_iff_not, beq_iff_eq, beq_eq_false_iff_ne, bne_iff_ne, ne_eq, Bool.not_eq_true, Bool.not_eq_false, Bool.not_eq_eq_eq_not, Bool.not_true, Bool.not_false, Decidable.not_not, Int.not_lt, Int.not_le, gt_iff_lt, ge_iff_le, bne_eq_false_iff_eq]; first | done | assumption | omega), ?_⟩ | refine Or.inr (Or.inl ⟨by first | assumption | (simp only [eqO, Ob.eta, Cl.eta, tt_true, tt_false, decide_eq_true_eq, decide_eq_false_iff_not, beq_iff_eq, beq_eq_false_iff_ne, bne_iff_ne, ne_eq, Bool.not_eq_true, Bool.not_eq_false, Bool.not_eq_eq_eq_not, Bool.not_true, Bool.not_false, Decidable.not_not, Int.not_lt, Int.not_le, gt_iff_lt, ge_iff_le, bne_eq_false_iff_eq]; first | done | assumption | omega), ?_⟩) | (refine Or.inr (Or.inr ⟨fun hsp => ?_, fun hsp => ?_⟩) <;> (try simp only [eqO, Ob.eta, Cl.eta, tt_true, tt_false, decide_eq_true_eq, decide_eq_false_iff_not, beq_iff_eq, beq_eq_false_iff_ne, bne_iff_ne, ne_eq, Bool.not_eq_true, Bool.not_eq_false, Bool.not_eq_eq_eq_not, Bool.not_true, Bool.not_false, Decidable.not_not, Int.not_lt, Int.not_le, gt_iff_lt, ge_iff_le, bne_eq_false_iff_eq] at hsp) <;> try subst hsp))
             | fail)
  all_goals (conv => whnf)
  all_goals (first | (with_reducible refine tt_T ?_) | (with_reducible refine tt_F ?_) | (refine tt_B ?_; try simp (disch := omega) only [eqO, Ob.eta, Cl.eta, tt_true, tt_false, decide_eq_true_eq, decide_eq_false_iff_not, beq_iff_eq, beq_eq_false_iff_ne, bne_iff_ne, ne_eq, Bool.not_eq_true, Bool.not_eq_false, Bool.not_eq_eq_eq_not, Bool.not_true, Bool.not_false, Decidable.not_not, Int.not_lt, Int.not_le, gt_iff_lt, ge_iff_le, bne_eq_false_iff_eq, wrap_small])) <;> (grind [suitsP, sFont, sForm, sPattern, sEncoding])
end Go.Ab.Td

/- The reference: resources found. Under: nothing. -/
namespace Go.Ab.Td
open Go Go.Ab
variable {P : Program}
set_option linter.unusedSimpArgs false
attribute [local irreducible] compat
noncomputable def rdic (h : List Cl) (c : Ob) : Prop := (look (cellAt h catD) c).isSome = true ∧ ((look (cellAt h catD) c).getD ob0).kind = 9


set_option maxHeartbeats 1000000 in
set_option maxRecDepth 100000 in
theorem ok_ref18_Dict (C : Laid P) (s : Sta) (c : Ob) (hs : small s.heap) (h4 : 4 < s.heap.length) : OkC P G n_ref18_Dict [aS s, aO c] [] (.tup [aO ((look (cellAt s.heap catD) c).getD ob0), .bool (tt (rdic s.heap c))]) := by
  refine ok_fn C (k_ref18_Dict C) rfl ?_
  repeat' (conv => whnf
           first
             | (with_reducible refine sC (by kernel_rfl) ?_)
             | ((first | with_reducible refine sB ?_ | with_reducible refine sG0 ?_ | with_reducible refine sG1 ?_ | refine sP (by rfl) ?_); first | refine Or.inl ⟨by first | assumption | (simp only [eqO, Ob.eta, Cl.eta, tt_true, tt_false, decide_eq_true_eq, decide_eq_false_iff_not, beq_iff_eq, beq_eq_false_iff_ne, bne_iff_ne, ne_eq, Bool.not_eq_true, Bool.not_eq_false, Bool.not_eq_eq_eq_not, Bool.not_true, Bool.not_false, Decidable.not_not, Int.not_lt, Int.not_le, gt_iff_lt, ge_iff_le, bne_eq_false_iff_eq]; first | done | assumption | omega), ?_⟩ | refine Or.inr (Or.inl ⟨by first | assumption | (simp only [eqO, Ob.eta, Cl.eta, tt_true, tt_false, decide_eq_true_eq, decide_eq_false_iff_not, beq_iff_eq, beq_eq_false_iff_ne, bne_iff_ne, ne_eq, Bool.not_eq_true, Bool.not_eq_false, Bool.not_eq_eq_eq_not, Bool.not_true, Bool.not_false, Decidable.not_not, Int.not_lt, Int.not_le, gt_iff_lt, ge_iff_le, bne_eq_false_iff_eq]; first | done | assumption | omega), ?_⟩) | (refine Or.inr (Or.inr ⟨fun hsp => ?_, fun hsp => ?_⟩) <;> (try simp only [eqO, Ob.eta, Cl.eta, tt_true, tt_false, decide_eq_true_eq, decide_eq_false_iff_not, beq_iff_eq, beq_eq_false_iff_ne, bne_iff_ne, ne_eq, Bool.not_eq_true, Bool.not_eq_false, Bool.not_eq_eq_eq_not, Bool.not_true, Bool.not_false, Decidable.not_not, Int.not_lt, Int.not_le, gt_iff_lt, ge_iff_le, bne_eq_false_iff_eq] at hsp) <;> try subst hsp))
             | refine ⟨_, _, ok_ref11_Find C s.heap catD c (by decide) (by show (4 : Int) < _; omega) hs, ?_⟩
             | fail)
  all_goals (conv => whnf)
  all_goals (refine le_tup (LeL.cons (PV.le.refl _) (LeL.cons ?_ LeL.nil)); (first | (with_reducible refine tt_T ?_) | (with_reducible refine tt_F ?_) | (refine tt_B ?_; try simp (disch := omega) only [eqO, Ob.eta, Cl.eta, tt_true, tt_false, decide_eq_true_eq, decide_eq_false_iff_not, beq_iff_eq, beq_eq_false_iff_ne, bne_iff_ne, ne_eq, Bool.not_eq_true, Bool.not_eq_false, Bool.not_eq_eq_eq_not, Bool.not_true, Bool.not_false, Decidable.not_not, Int.not_lt, Int.not_le, gt_iff_lt, ge_iff_le, bne_eq_false_iff_eq, wrap_small])) <;> (grind [rdic]))
set_option maxHeartbeats 1000000 in
set_option maxRecDepth 100000 in
theorem ok_ref18_Find (C : Laid P) (s : Sta) (cs : List UInt8) (k : Ob) (hs : small s.heap) (h4 : 4 < s.heap.length) (hr : rdic s.heap (nmO cs) → 0 ≤ ((look (cellAt s.heap catD) (nmO cs)).getD ob0).ref ∧ ((look (cellAt s.heap catD) (nmO cs)).getD ob0).ref < s.heap.length) : OkC P G n_ref18_Find [aS s, .str cs, aO k] [] (.tup [aO (if (tt (rdic s.heap (nmO cs))) = true then (look (cellAt s.heap ((look (cellAt s.heap catD) (nmO cs)).getD ob0)) k).getD ob0 else ob0), pI (if (tt (rdic s.heap (nmO cs))) = true then (if (look (cellAt s.heap ((look (cellAt s.heap catD) (nmO cs)).getD ob0)) k).isSome = true then 0 else 40) else 24)]) := by
  refine ok_fn C (k_ref18_Find C) rfl ?_
  repeat' (conv => whnf
           first
             | (with_reducible refine sC (by kernel_rfl) ?_)
             | ((first | with_reducible refine sB ?_ | with_reducible refine sG0 ?_ | with_reducible refine sG1 ?_ | refine sP (by rfl) ?_); first | refine Or.inl ⟨by first | assumption | (simp only [eqO, Ob.eta, Cl.eta, tt_true, tt_false, decide_eq_true_eq, decide_eq_false_iff_not, beq_iff_eq, beq_eq_false_iff_ne, bne_iff_ne, ne_eq, Bool.not_eq_true, Bool.not_eq_false, Bool.not_eq_eq_eq_not, Bool.not_true, Bool.not_false, Decidable.not_not, Int.not_lt, Int.not_le, gt_iff_lt, ge_iff_le, bne_eq_false_iff_eq]; first | done | assumption | omega), ?_⟩ | refine Or.inr (Or.inl ⟨by first | assumption | (simp only [eqO, Ob.eta, Cl.eta, tt_true, tt_false, decide_eq_true_eq, decide_eq_false_iff_not, beq_iff_eq, beq_eq_false_iff_ne, bne_iff_ne, ne_eq, Bool.not_eq_true, Bool.not_eq_false, Bool.not_eq_eq_eq_not, Bool.not_true, Bool.not_false, Decidable.not_not, Int.not_lt, Int.not_le, gt_iff_lt, ge_iff_le, bne_eq_false_iff_eq]; first | done | assumption | omega), ?_⟩) | (refine Or.inr (Or.inr ⟨fun hsp => ?_, fun hsp => ?_⟩) <;> (try simp only [eqO, Ob.eta, Cl.eta, tt_true, tt_false, decide_eq_true_eq, decide_eq_false_iff_not, beq_iff_eq, beq_eq_false_iff_ne, bne_iff_ne, ne_eq, Bool.not_eq_true, Bool.not_eq_false, Bool.not_eq_eq_eq_not, Bool.not_true, Bool.not_false, Decidable.not_not, Int.not_lt, Int.not_le, gt_iff_lt, ge_iff_le, bne_eq_false_iff_eq] at hsp) <;> try subst hsp))
             | refine ⟨_, _, ok_ref18_Dict C s (nmO cs) hs h4, ?_⟩
             | refine ⟨_, _, ok_ref11_Find C s.heap ((look (cellAt s.heap catD) (nmO cs)).getD ob0) k (hr (by assumption)).1 (hr (by assumption)).2 hs, ?_⟩
             | fail)
  all_goals (conv => whnf)
  all_goals (simp only [tt_true, *, if_true, if_false]; ((repeat' (first | (with_reducible exact PV.le.refl _) | exact PV.le.emp _ | exact LeL.nil | (with_reducible refine le_tup ?_) | (with_reducible refine le_agg ?_) | (refine LeL.cons ?_ ?_) | (with_reducible refine le_int ?_) | (with_reducible refine le_str ?_) | (with_reducible refine tt_T ?_) | (with_reducible refine tt_F ?_) | (with_reducible refine le_sle ?_) | (refine tt_B ?_))) <;> first | rfl | exact PV.le.refl _ | ((try simp only [Ob.eta, Cl.eta, List.length_map] at *); first | rfl | (refine le_of_eq ?_; congr 1; grind [ob0, look]) | grind [ob0, look])))
end Go.Ab.Td

/- The reference: keys. Under: nothing. -/
namespace Go.Ab.Td
open Go Go.Ab
variable {P : Program}
set_option linter.unusedSimpArgs false
attribute [local irreducible] compat
theorem right_exec {o : Ob} (h : o.right) : ({ o with exec := false } : Ob).right := h
theorem tmod0 {n : Int} (h1 : -2147483648 ≤ n) (h2 : n ≤ 2147483648) : (IntKind.i64.wrap (n.tdiv 65536 * 65536) = n) = (n.tmod 65536 = 0) := by
  have h := Int.mul_tdiv_add_tmod n 65536
  have hb := tdiv_bound h1 h2
  rw [wrap_small (by omega) (by omega)]
  apply propext
  omega


set_option maxHeartbeats 1000000 in
set_option maxRecDepth 100000 in
theorem ok_ref10_Key (C : Laid P) (o : Ob) (hr : o.right) : OkC P G n_ref10_Key [aO o] [] (aO o.key) := by
  refine ok_fn C (k_ref10_Key C) rfl ?_
  have hr2 := right_exec hr
  by_cases hk : o.kind = 4
  · have hb := right_real hr hk
    have ht := tmod0 hb.1 hb.2
    repeat' (conv => whnf
             first
               | (with_reducible refine sC (by kernel_rfl) ?_)
               | ((first | with_reducible refine sB ?_ | with_reducible refine sG0 ?_ | with_reducible refine sG1 ?_ | refine sP (by rfl) ?_); first | refine Or.inl ⟨by first | assumption | (simp only [eqO, Ob.eta, Cl.eta, tt_true, tt_false, decide_eq_true_eq, decide_eq_false_iff_not, beq_iff_eq, beq_eq_false_iff_ne, bne_iff_ne, ne_eq, Bool.not_eq_true, Bool.not_eq_false, Bool.not_eq_eq_eq_not, Bool.not_true, Bool.not_false, Decidable.not_not, Int.not_lt, Int.not_le, gt_iff_lt, ge_iff_le, bne_eq_false_iff_eq, ht]; first | done | assumption | omega), ?_⟩ | refine Or.inr (Or.inl ⟨by first | assumption | (simp only [eqO, Ob.eta, Cl.eta, tt_true, tt_false, decide_eq_true_eq, decide_eq_false_iff_not, beq_iff_eq, beq_eq_false_iff_ne, bne_iff_ne, ne_eq, Bool.not_eq_true, Bool.not_eq_false, Bool.not_eq_eq_eq_not, Bool.not_true, Bool.not_false, Decidable.not_not, Int.not_lt, Int.not_le, gt_iff_lt, ge_iff_le, bne_eq_false_iff_eq, ht]; first | done | assumption | omega), ?_⟩) | (refine Or.inr (Or.inr ⟨fun hsp => ?_, fun hsp => ?_⟩) <;> (try simp only [eqO, Ob.eta, Cl.eta, tt_true, tt_false, decide_eq_true_eq, decide_eq_false_iff_not, beq_iff_eq, beq_eq_false_iff_ne, bne_iff_ne, ne_eq, Bool.not_eq_true, Bool.not_eq_false, Bool.not_eq_eq_eq_not, Bool.not_true, Bool.not_false, Decidable.not_not, Int.not_lt, Int.not_le, gt_iff_lt, ge_iff_le, bne_eq_false_iff_eq, ht] at hsp) <;> try subst hsp))
               | refine ⟨_, _, ok_ref10_ToInt C { o with exec := false } hr2 hk, ?_⟩
               | fail)
    all_goals (conv => whnf)
    all_goals (refine le_of_eq ?_; simp [Ob.key, encO, *])
  · repeat' (conv => whnf
             first
               | (with_reducible refine sC (by kernel_rfl) ?_)
               | ((first | with_reducible refine sB ?_ | with_reducible refine sG0 ?_ | with_reducible refine sG1 ?_ | refine sP (by rfl) ?_); first | refine Or.inl ⟨by first | assumption | (simp only [eqO, Ob.eta, Cl.eta, tt_true, tt_false, decide_eq_true_eq, decide_eq_false_iff_not, beq_iff_eq, beq_eq_false_iff_ne, bne_iff_ne, ne_eq, Bool.not_eq_true, Bool.not_eq_false, Bool.not_eq_eq_eq_not, Bool.not_true, Bool.not_false, Decidable.not_not, Int.not_lt, Int.not_le, gt_iff_lt, ge_iff_le, bne_eq_false_iff_eq]; first | done | assumption | omega), ?_⟩ | refine Or.inr (Or.inl ⟨by first | assumption | (simp only [eqO, Ob.eta, Cl.eta, tt_true, tt_false, decide_eq_true_eq, decide_eq_false_iff_not, beq_iff_eq, beq_eq_false_iff_ne, bne_iff_ne, ne_eq, Bool.not_eq_true, Bool.not_eq_false, Bool.not_eq_eq_eq_not, Bool.not_true, Bool.not_false, Decidable.not_not, Int.not_lt, Int.not_le, gt_iff_lt, ge_iff_le, bne_eq_false_iff_eq]; first | done | assumption | omega), ?_⟩) | (refine Or.inr (Or.inr ⟨fun hsp => ?_, fun hsp => ?_⟩) <;> (try simp only [eqO, Ob.eta, Cl.eta, tt_true, tt_false, decide_eq_true_eq, decide_eq_false_iff_not, beq_iff_eq, beq_eq_false_iff_ne, bne_iff_ne, ne_eq, Bool.not_eq_true, Bool.not_eq_false, Bool.not_eq_eq_eq_not, Bool.not_true, Bool.not_false, Decidable.not_not, Int.not_lt, Int.not_le, gt_iff_lt, ge_iff_le, bne_eq_false_iff_eq] at hsp) <;> try subst hsp))
               | fail)
    all_goals (conv => whnf)
    all_goals (refine le_of_eq ?_; simp [Ob.key, encO, *])
  skip
end Go.Ab.Td

/- The reference: keys in a heap. Under: nothing. -/
namespace Go.Ab.Td
open Go Go.Ab
variable {P : Program}
set_option linter.unusedSimpArgs false
attribute [local irreducible] compat

set_option maxHeartbeats 1000000 in
set_option maxRecDepth 100000 in
theorem ok_ref11_Key (C : Laid P) (h : List Cl) (o : Ob) (hf : fits h o) : OkC P G n_ref11_Key [.sl 7 (List.map encC h), aO o] [] (.tup [aO (hKey h o).1, pI (hKey h o).2]) := by
  refine ok_fn C (k_ref11_Key C) rfl ?_
  have hr := hf.1
  have hb := right_ref hr
  have ho := right_off hr
  have hc : o.kind = 6 → o.ref < h.length ∧ o.off + o.len ≤ (cellAt h o).bytes.length := by
    intro hk
    obtain ⟨h1, h2, h3⟩ := fits_cell hf (by simp [cellK, hk])
    have := (List.getElem?_eq_some_iff.1 h1).1
    refine ⟨by omega, ?_⟩
    have h4 := h3 ⟨by omega, by omega⟩
    simpa [Cl.length, h2, cellK, hk] using h4
  repeat' (conv => whnf
           first
             | (with_reducible refine sC (by kernel_rfl) ?_)
             | ((first | with_reducible refine sB ?_ | with_reducible refine sG0 ?_ | with_reducible refine sG1 ?_ | refine sP (by rfl) ?_); first | refine Or.inl ⟨by first | assumption | (simp only [eqO, Ob.eta, Cl.eta, tt_true, tt_false, decide_eq_true_eq, decide_eq_false_iff_not, beq_iff_eq, beq_eq_false_iff_ne, bne_iff_ne, ne_eq, Bool.not_eq_true, Bool.not_eq_false, Bool.not_eq_eq_eq_not, Bool.not_true, Bool.not_false, Decidable.not_not, Int.not_lt, Int.not_le, gt_iff_lt, ge_iff_le, bne_eq_false_iff_eq]; first | done | assumption | omega), ?_⟩ | refine Or.inr (Or.inl ⟨by first | assumption | (simp only [eqO, Ob.eta, Cl.eta, tt_true, tt_false, decide_eq_true_eq, decide_eq_false_iff_not, beq_iff_eq, beq_eq_false_iff_ne, bne_iff_ne, ne_eq, Bool.not_eq_true, Bool.not_eq_false, Bool.not_eq_eq_eq_not, Bool.not_true, Bool.not_false, Decidable.not_not, Int.not_lt, Int.not_le, gt_iff_lt, ge_iff_le, bne_eq_false_iff_eq]; first | done | assumption | omega), ?_⟩) | (refine Or.inr (Or.inr ⟨fun hsp => ?_, fun hsp => ?_⟩) <;> (try simp only [eqO, Ob.eta, Cl.eta, tt_true, tt_false, decide_eq_true_eq, decide_eq_false_iff_not, beq_iff_eq, beq_eq_false_iff_ne, bne_iff_ne, ne_eq, Bool.not_eq_true, Bool.not_eq_false, Bool.not_eq_eq_eq_not, Bool.not_true, Bool.not_false, Decidable.not_not, Int.not_lt, Int.not_le, gt_iff_lt, ge_iff_le, bne_eq_false_iff_eq] at hsp) <;> try subst hsp))
             | refine ⟨_, _, ok_ref10_Key C o hr, ?_⟩
             | refine ⟨_, _, ok_ref11_Bytes C h o (by omega) (hc (by assumption)).1 (by omega) (by omega) (by omega) (hc (by assumption)).2, ?_⟩
             | fail)
  all_goals (conv => whnf)
  all_goals ((repeat' (first | (with_reducible exact PV.le.refl _) | exact PV.le.emp _ | exact LeL.nil | (with_reducible refine le_tup ?_) | (with_reducible refine le_agg ?_) | (refine LeL.cons ?_ ?_) | (with_reducible refine le_int ?_) | (with_reducible refine le_str ?_) | (with_reducible refine tt_T ?_) | (with_reducible refine tt_F ?_) | (with_reducible refine le_sle ?_) | (refine tt_B ?_))) <;> first | rfl | exact PV.le.refl _ | ((try simp only [Ob.eta, Cl.eta, List.length_map] at *); first | rfl | (refine le_of_eq ?_; congr 1; grind [hKey, ob0, nmO]) | grind [hKey, ob0, nmO]))
end Go.Ab.Td

/- The reference: what fits, octets. Under: nothing. -/
namespace Go.Ab.Td
open Go Go.Ab
variable {P : Program}
set_option linter.unusedSimpArgs false
attribute [local irreducible] compat

noncomputable def oct (h : List Cl) (o : Ob) : Option (List UInt8) := if o.kind = 5 then some o.name else if o.kind = 6 then some (sub h o) else none


end Go.Ab.Td

/- Equality: the reference. Under: nothing. -/
namespace Go.Ab.Td
open Go Go.Ab
variable {P : Program}
set_option linter.unusedSimpArgs false
attribute [local irreducible] compat
open Classical in
noncomputable def eqv (h : List Cl) (a b : Ob) : Prop := if ¬ fits h a ∨ ¬ fits h b then False else if a.isNum ∧ b.isNum then a.val = b.val else if (oct h a).isSome = true ∧ (oct h b).isSome = true then (oct h a).getD [] = (oct h b).getD [] else ({ a with exec := false } : Ob) = { b with exec := false }


end Go.Ab.Td
