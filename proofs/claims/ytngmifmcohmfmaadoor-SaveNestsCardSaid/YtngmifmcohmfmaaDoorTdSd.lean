/- Saves: restore. Under: nothing. -/
import Derived.Test.YtngmifmcohmfmaaDoorTdSc
namespace Go.Ab.Td
open Go Go.Ab
variable {P : Program}
set_option linter.unusedSimpArgs false
attribute [local irreducible] compat

set_option maxHeartbeats 8000000 in
set_option maxRecDepth 100000 in
theorem ok_restore_no (C : Laid P) (s : Sta) (l : List Sn) (lo : List Ob) (n : Int) (hop : s.ops = lo ++ [svO n]) (hq : s.f3 = l.map encSn) (hl : l.length ≤ 1000) (ho : lo.length ≤ 1000) (hp : plF n 0 l < 0) : OkC P G n_save_keeper_restore [aS s] [] (.tup [aS s, pI 34]) := by
  refine ok_fn C (k_save_keeper_restore C) rfl ?_
  have kT := ok_stack_Top C s 1 (by decide) (by rw [hop]; simp; omega) (by rw [hop]; simp; omega)
  rw [show s.ops.drop (s.ops.length - (1 : Int).toNat) = [svO n] by rw [hop]; simp] at kT
  have kF := ok_save_keeper_find C s l n hq (by omega)
  repeat' (conv => whnf
           first
             | (with_reducible refine sC (by kernel_rfl) ?_)
             | ((first | with_reducible refine sB ?_ | with_reducible refine sG0 ?_ | with_reducible refine sG1 ?_ | refine sP (by rfl) ?_); first | refine oT ?_ | refine oF ?_ | (refine Or.inr (Or.inr ⟨fun hsp => ?_, fun hsp => ?_⟩) <;> (try simp only [eqO, Ob.eta, Cl.eta, tt_true, tt_false, decide_eq_true_eq, decide_eq_false_iff_not, beq_iff_eq, beq_eq_false_iff_ne, bne_iff_ne, ne_eq, Bool.not_eq_true, Bool.not_eq_false, Bool.not_eq_eq_eq_not, Bool.not_true, Bool.not_false, Decidable.not_not, Int.not_lt, Int.not_le, gt_iff_lt, ge_iff_le, bne_eq_false_iff_eq, List.length_map] at hsp) <;> try subst hsp))
             | refine ⟨_, _, kT, ?_⟩
             | refine ⟨_, _, kF, ?_⟩
             | fail)
  all_goals (conv => whnf)
  all_goals ((repeat' (first | (with_reducible exact PV.le.refl _) | exact PV.le.emp _ | exact LeL.nil | (with_reducible refine le_tup ?_) | (with_reducible refine le_agg ?_) | (refine LeL.cons ?_ ?_) | (with_reducible refine le_int ?_) | (with_reducible refine le_str ?_) | (with_reducible refine tt_T ?_) | (with_reducible refine tt_F ?_) | (with_reducible refine le_sle ?_) | (refine tt_B ?_))) <;> (first | rfl | exact PV.le.refl _ | (simp [grO, svS, svO]; done) | (refine le_of_eq ?_; simp [grO, svS, svO])))
/-- After restore. -/
def rsS (s : Sta) (lo : List Ob) (xh : List Cl) (t : Sta) (i j : Nat) : Sta := { s with ops := lo, heap := xh, f3 := s.f3.take i, f62 := s.f62.take j, f5 := t.f5, f6 := t.f6, f7 := t.f7, f8 := t.f8, f9 := t.f9, f10 := t.f10, f11 := t.f11, f12 := t.f12, f13 := t.f13, f14 := t.f14, f15 := t.f15, f16 := t.f16, f17 := t.f17, f18 := t.f18, f19 := t.f19, f20 := t.f20, f21 := t.f21, f22 := t.f22, f23 := t.f23, f24 := t.f24, f25 := t.f25, f26 := t.f26, f27 := t.f27, f28 := t.f28, f29 := t.f29, f30 := t.f30, f31 := t.f31, f32 := t.f32, f33 := t.f33, f34 := t.f34, f35 := t.f35, f36 := t.f36, f37 := t.f37, f38 := t.f38, f39 := t.f39, f40 := t.f40, f41 := t.f41, f42 := t.f42, f43 := t.f43, f44 := t.f44, f45 := t.f45, f46 := t.f46, f47 := t.f47, f48 := t.f48, f49 := t.f49, f50 := t.f50, f51 := t.f51, f52 := t.f52, f53 := t.f53, f54 := t.f54, f55 := t.f55, f56 := t.f56, f57 := t.f57, f58 := t.f58, f59 := t.f59, f60 := t.f60, f61 := t.f61 }


set_option maxHeartbeats 8000000 in
set_option maxRecDepth 100000 in
theorem ok_restore_yes (C : Laid P) (s : Sta) (l : List Sn) (lo : List Ob) (n : Int) (hop : s.ops = lo ++ [svO n]) (hq : s.f3 = l.map encSn) (hl : l.length ≤ 1000) (ho : lo.length ≤ 1000) (hd : s.dicts.length ≤ 1000) (i j : Nat) (hp : plF n 0 l = (i : Int)) (hn : Int) (xh : List Cl) (hx : l[i]? = some ⟨hn, xh, (j : Int)⟩) (t : Sta) (ht : s.f62[j]? = some (grO t)) (h1 : ¬ ∃ o ∈ lo, newerP xh.length o) (h2 : ¬ ∃ o ∈ s.dicts, newerP xh.length o) : OkC P G n_save_keeper_restore [aS s] [] (.tup [aS (rsS s lo xh t i j), pI 0]) := by
  refine ok_fn C (k_save_keeper_restore C) rfl ?_
  have kT := ok_stack_Top C s 1 (by decide) (by rw [hop]; simp; omega) (by rw [hop]; simp; omega)
  rw [show s.ops.drop (s.ops.length - (1 : Int).toNat) = [svO n] by rw [hop]; simp] at kT
  have kF := ok_save_keeper_find C s l n hq (by omega)
  have kD := ok_stack_Drop C s 1 (by decide) (by rw [hop]; simp; omega) (by rw [hop]; simp; omega)
  rw [show s.ops.take (s.ops.length - (1 : Int).toNat) = lo by rw [hop]; simp] at kD
  have k1 := ok_save_some_Obj C lo ⟨hn, xh, (j : Int)⟩ (by omega)
  have k2 := ok_save_some_Obj C s.dicts ⟨hn, xh, (j : Int)⟩ (by omega)
  rw [show tt (∃ o ∈ lo, newerP xh.length o) = false from tt_false.mpr h1] at k1
  rw [show tt (∃ o ∈ s.dicts, newerP xh.length o) = false from tt_false.mpr h2] at k2
  rw [hp] at kF
  have hil := (List.getElem?_eq_some_iff.1 hx).1
  have hjl := (List.getElem?_eq_some_iff.1 ht).1
  have hl3 : s.f3.length = l.length := by rw [hq, List.length_map]
  have hrow : s.f3[(i : Int).toNat]? = some (encSn ⟨hn, xh, (j : Int)⟩) := by rw [hq]; exact row_map (f := encSn) hx
  have hrow2 : s.f62[(j : Int).toNat]? = some (grO t) := by simpa using ht
  repeat' (conv => whnf
           first
             | (with_reducible refine sC (by kernel_rfl) ?_)
             | ((first | with_reducible refine sB ?_ | with_reducible refine sG0 ?_ | with_reducible refine sG1 ?_ | refine sP (by rfl) ?_); first | refine oT ?_ | refine oF ?_ | (refine Or.inr (Or.inr ⟨fun hsp => ?_, fun hsp => ?_⟩) <;> (try simp only [eqO, Ob.eta, Cl.eta, tt_true, tt_false, decide_eq_true_eq, decide_eq_false_iff_not, beq_iff_eq, beq_eq_false_iff_ne, bne_iff_ne, ne_eq, Bool.not_eq_true, Bool.not_eq_false, Bool.not_eq_eq_eq_not, Bool.not_true, Bool.not_false, Decidable.not_not, Int.not_lt, Int.not_le, gt_iff_lt, ge_iff_le, bne_eq_false_iff_eq, List.length_map] at hsp) <;> try subst hsp))
             | refine ⟨_, _, kT, ?_⟩
             | refine ⟨_, _, kF, ?_⟩
             | refine ⟨_, _, kD, ?_⟩
             | refine ⟨_, _, k1, ?_⟩
             | refine ⟨_, _, k2, ?_⟩
             | refine sS (iaddr_at (by rfl) (by rfl) (by omega) hrow) ?_
             | refine sS (iaddr_at (by rfl) (by rfl) (by omega) hrow2) ?_
             | refine sS (slice_m (rows := s.f3) (l := 0) (h := (i : Int)) (k := (i : Int)) (by rfl) (by rfl) (by rfl) (by rfl) (by omega) (by omega) (by rfl) (by omega)) ?_
             | refine sS (slice_m (rows := s.f62) (l := 0) (h := (j : Int)) (k := (j : Int)) (by rfl) (by rfl) (by rfl) (by rfl) (by omega) (by omega) (by rfl) (by omega)) ?_
             | fail)
  all_goals (conv => whnf)
  all_goals ((repeat' (first | (with_reducible exact PV.le.refl _) | exact PV.le.emp _ | exact LeL.nil | (with_reducible refine le_tup ?_) | (with_reducible refine le_agg ?_) | (refine LeL.cons ?_ ?_) | (with_reducible refine le_int ?_) | (with_reducible refine le_str ?_) | (with_reducible refine tt_T ?_) | (with_reducible refine tt_F ?_) | (with_reducible refine le_sle ?_) | (refine tt_B ?_))) <;> (first | rfl | exact PV.le.refl _ | (simp [grO, svS, svO]; done) | (refine le_of_eq ?_; simp [grO, svS, svO])))
end Go.Ab.Td
