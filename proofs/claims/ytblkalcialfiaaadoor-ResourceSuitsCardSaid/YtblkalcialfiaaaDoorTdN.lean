/- ResourceSuits. Under: nothing. -/
import Derived.Test.YtblkalcialfiaaaDoorTdL
import Derived.Test.YtblkalcialfiaaaDoorTdDo
import Derived.Test.YtblkalcialfiaaaDoorTdK
namespace Go.Ab.Td
open Go Go.Ab
variable {P : Program}
set_option linter.unusedSimpArgs false
attribute [local irreducible] compat

theorem suits_yes (C : Laid P) {s : Sta} (hs : StaT s) {cs : List UInt8} (hc : cs ∈ cats) (o : Ob) (ho : o.n < 9223372036854775808) (hx : suitsP cs o) : ∃ t, OkC P G n_resource_Do [aS { s with ops := [nmO sNew, o, nmO cs] }, .str sDefine] [] (.tup [aS t, pI 0]) := by
  obtain ⟨hn, ha, e0, e1, e2, j, h5, h9, ed, hv, c, hp⟩ := ask3_ok hs hc o ho
  have hd := ok_define C (ask3 s o cs) (nmO sNew) o (nmO cs) (dO j) 3 hn (by simp [dO]) c (by decide) (by simp [ask3]) (by simp [ask3]) hx hv hp
  rw [← ed, ← e2, ← e0] at hd
  have hr := ok_run3 C (ask3 s o cs) _ _ _ hn ha (by rw [e1]; exact hd)
  exact ⟨_, ok_Do_define C (ask3 s o cs) _ _ hr⟩
theorem suits_no (C : Laid P) {s : Sta} (hs : StaT s) {cs : List UInt8} (hc : cs ∈ cats) (o : Ob) (ho : o.n < 9223372036854775808) (hx : ¬ suitsP cs o) : ∃ t, OkC P G n_resource_Do [aS { s with ops := [nmO sNew, o, nmO cs] }, .str sDefine] [] (.tup [aS t, pI 22]) := by
  obtain ⟨hn, ha, e0, e1, e2, j, h5, h9, ed, hv, c, hp⟩ := ask3_ok hs hc o ho
  have hd := ok_define_no C (ask3 s o cs) (nmO sNew) o (nmO cs) (dO j) 3 hx
  rw [← ed, ← e2, ← e0] at hd
  have hr := ok_run3 C (ask3 s o cs) _ _ _ hn ha (by rw [e1]; exact hd)
  exact ⟨_, ok_Do_define C (ask3 s o cs) _ _ hr⟩
theorem cat_at {c : Int} (h0 : 0 ≤ c) : ∃ cs, (cats.map fun c => [PV.str c])[(c.tmod 5).toNat]? = some [PV.str cs] ∧ cs ∈ cats := by
  have h1 := Int.tmod_nonneg 5 h0
  have h2 := Int.tmod_lt_of_pos c (show (0 : Int) < 5 by decide)
  have : c.tmod 5 = 0 ∨ c.tmod 5 = 1 ∨ c.tmod 5 = 2 ∨ c.tmod 5 = 3 ∨ c.tmod 5 = 4 := by omega
  rcases this with h | h | h | h | h <;> rw [h] <;> exact ⟨_, rfl, by simp [cats]⟩


set_option maxHeartbeats 1000000 in
set_option maxRecDepth 100000 in
theorem ok_law18_ResourceSuits (C : Laid P) (cells ops dicts : List (List PV)) (hce : ∀ r ∈ cells, WordR r) (hop : ∀ r ∈ ops, WordR r) (hdi : ∀ r ∈ dicts, ∃ D, r = [.int .u8 D] ∧ 0 ≤ D ∧ D < 256) (K A B N : Int) (S : List UInt8) (hA : 0 ≤ A ∧ A < 256) (hB : 0 ≤ B ∧ B < 256) (c : Int) (h0 : 0 ≤ c) : OkC P G n_law18_ResourceSuits [.agg [.sl 5 cells, .sl 5 ops, .sl 1 dicts], wordV K A B N S, .int .u8 c] [] (.bool true) := by
  refine ok_fn C (k_law18_ResourceSuits C) rfl ?_
  obtain ⟨s, hs, hst⟩ := kit_stateT C cells ops dicts hce hop hdi
  have hh : HeapT s.heap := by obtain ⟨_, _, _, rfl, h, _⟩ := hs; exact h
  obtain ⟨o, ho, hob⟩ := kit_objT C s.heap hh K A B N S hA hB
  obtain ⟨cs, hcs, hmem⟩ := cat_at h0
  have ht0 := Int.tmod_nonneg 5 h0
  have hy := suits_yes C hs hmem o ho
  have hn := suits_no C hs hmem o ho
  by_cases hx : suitsP cs o
  · obtain ⟨t, hdo⟩ := hy hx
    clear hy hn
    repeat' (conv => whnf
             first
               | (with_reducible refine sC (by kernel_rfl) ?_)
               | ((first | with_reducible refine sB ?_ | with_reducible refine sG0 ?_ | with_reducible refine sG1 ?_ | refine sP (by rfl) ?_); first | refine Or.inl ⟨by first | assumption | (simp only [eqO, Ob.eta, Cl.eta, tt_true, tt_false, decide_eq_true_eq, decide_eq_false_iff_not, beq_iff_eq, beq_eq_false_iff_ne, bne_iff_ne, ne_eq, Bool.not_eq_true, Bool.not_eq_false, Bool.not_eq_eq_eq_not, Bool.not_true, Bool.not_false, Decidable.not_not, Int.not_lt, Int.not_le, gt_iff_lt, ge_iff_le, bne_eq_false_iff_eq]; first | done | assumption | omega), ?_⟩ | refine Or.inr (Or.inl ⟨by first | assumption | (simp only [eqO, Ob.eta, Cl.eta, tt_true, tt_false, decide_eq_true_eq, decide_eq_false_iff_not, beq_iff_eq, beq_eq_false_iff_ne, bne_iff_ne, ne_eq, Bool.not_eq_true, Bool.not_eq_false, Bool.not_eq_eq_eq_not, Bool.not_true, Bool.not_false, Decidable.not_not, Int.not_lt, Int.not_le, gt_iff_lt, ge_iff_le, bne_eq_false_iff_eq]; first | done | assumption | omega), ?_⟩) | (refine Or.inr (Or.inr ⟨fun hsp => ?_, fun hsp => ?_⟩) <;> (try simp only [eqO, Ob.eta, Cl.eta, tt_true, tt_false, decide_eq_true_eq, decide_eq_false_iff_not, beq_iff_eq, beq_eq_false_iff_ne, bne_iff_ne, ne_eq, Bool.not_eq_true, Bool.not_eq_false, Bool.not_eq_eq_eq_not, Bool.not_true, Bool.not_false, Decidable.not_not, Int.not_lt, Int.not_le, gt_iff_lt, ge_iff_le, bne_eq_false_iff_eq] at hsp) <;> try subst hsp))
               | refine ⟨_, _, TdW18.ok C, ?_⟩
               | refine ⟨_, _, hst, ?_⟩
               | refine ⟨_, _, hob, ?_⟩
               | refine ⟨_, _, ok_ref11_Categories C, ?_⟩
               | refine ⟨_, _, ok_law18_name C _, ?_⟩
               | refine ⟨_, _, ok_law18_then C s [nmO sNew, o, nmO cs], ?_⟩
               | refine ⟨_, _, hdo, ?_⟩
               | refine sS (rem_at (by rfl) (by rfl) (by decide)) ?_
               | refine sS (iaddr_k (by rfl) (by rfl) ht0 hcs) ?_
               | fail)
    all_goals (conv => whnf)
    all_goals (first | exact PV.le.refl _ | (refine le_of_eq ?_; congr 1; grind [suitsP, sFont, sForm, sPattern, sEncoding]) | (exfalso; grind [suitsP, sFont, sForm, sPattern, sEncoding]))
  · obtain ⟨t, hdo⟩ := hn hx
    clear hy hn
    repeat' (conv => whnf
             first
               | (with_reducible refine sC (by kernel_rfl) ?_)
               | ((first | with_reducible refine sB ?_ | with_reducible refine sG0 ?_ | with_reducible refine sG1 ?_ | refine sP (by rfl) ?_); first | refine Or.inl ⟨by first | assumption | (simp only [eqO, Ob.eta, Cl.eta, tt_true, tt_false, decide_eq_true_eq, decide_eq_false_iff_not, beq_iff_eq, beq_eq_false_iff_ne, bne_iff_ne, ne_eq, Bool.not_eq_true, Bool.not_eq_false, Bool.not_eq_eq_eq_not, Bool.not_true, Bool.not_false, Decidable.not_not, Int.not_lt, Int.not_le, gt_iff_lt, ge_iff_le, bne_eq_false_iff_eq]; first | done | assumption | omega), ?_⟩ | refine Or.inr (Or.inl ⟨by first | assumption | (simp only [eqO, Ob.eta, Cl.eta, tt_true, tt_false, decide_eq_true_eq, decide_eq_false_iff_not, beq_iff_eq, beq_eq_false_iff_ne, bne_iff_ne, ne_eq, Bool.not_eq_true, Bool.not_eq_false, Bool.not_eq_eq_eq_not, Bool.not_true, Bool.not_false, Decidable.not_not, Int.not_lt, Int.not_le, gt_iff_lt, ge_iff_le, bne_eq_false_iff_eq]; first | done | assumption | omega), ?_⟩) | (refine Or.inr (Or.inr ⟨fun hsp => ?_, fun hsp => ?_⟩) <;> (try simp only [eqO, Ob.eta, Cl.eta, tt_true, tt_false, decide_eq_true_eq, decide_eq_false_iff_not, beq_iff_eq, beq_eq_false_iff_ne, bne_iff_ne, ne_eq, Bool.not_eq_true, Bool.not_eq_false, Bool.not_eq_eq_eq_not, Bool.not_true, Bool.not_false, Decidable.not_not, Int.not_lt, Int.not_le, gt_iff_lt, ge_iff_le, bne_eq_false_iff_eq] at hsp) <;> try subst hsp))
               | refine ⟨_, _, TdW18.ok C, ?_⟩
               | refine ⟨_, _, hst, ?_⟩
               | refine ⟨_, _, hob, ?_⟩
               | refine ⟨_, _, ok_ref11_Categories C, ?_⟩
               | refine ⟨_, _, ok_law18_name C _, ?_⟩
               | refine ⟨_, _, ok_law18_then C s [nmO sNew, o, nmO cs], ?_⟩
               | refine ⟨_, _, hdo, ?_⟩
               | refine sS (rem_at (by rfl) (by rfl) (by decide)) ?_
               | refine sS (iaddr_k (by rfl) (by rfl) ht0 hcs) ?_
               | fail)
    all_goals (conv => whnf)
    all_goals (first | exact PV.le.refl _ | (refine le_of_eq ?_; congr 1; grind [suitsP, sFont, sForm, sPattern, sEncoding]) | (exfalso; grind [suitsP, sFont, sForm, sPattern, sEncoding]))
  skip
end Go.Ab.Td
