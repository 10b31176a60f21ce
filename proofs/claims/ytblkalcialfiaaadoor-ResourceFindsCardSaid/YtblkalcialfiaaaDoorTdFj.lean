/- Resources are found: the reference defines, well. Under: nothing. -/
import Derived.Test.YtblkalcialfiaaaDoorTdFi
namespace Go.Ab.Td
open Go Go.Ab
variable {P : Program}
set_option linter.unusedSimpArgs false
attribute [local irreducible] compat

set_option maxHeartbeats 1000000 in
set_option maxRecDepth 100000 in
theorem ok_ref18_Do_ok (C : Laid P) (s : Sta) (k o : Ob) (c : List UInt8) (hs : small s.heap) (h4 : 4 < s.heap.length) (fk : fits s.heap k) (kk : hKey s.heap k = (k, 0)) (k0 : k.kind ≠ 0) (hc : c.length ≤ 100) (j : Int) (hd : (look (cellAt s.heap catD) (nmO c)).getD ob0 = dO j) (hr : rdic s.heap (nmO c)) (j0 : 0 ≤ j) (j1 : j < s.heap.length) (hsu : suitsP c o) (t : Cl) (hp : putKV (cellAt s.heap (dO j)) k o = some t) : OkC P G n_ref18_Do [aS (st3 s k o c), .str sDefine] [] (.tup [aS { s with ops := [o], heap := s.heap.set j.toNat t }, pI 0]) := by
  refine ok_fn C (k_ref18_Do C) rfl ?_
  have kn : hKey s.heap (nmO c) = (nmO c, 0) := key_nm hc
  have fn : fits s.heap (nmO c) := ⟨(right_nm c false).2 hc, fun h => absurd rfl h⟩
  have kN := ok_ref18_Names C
  have kIn := ok_ref12_In C namesL sDefine (by decide)
  rw [show tt (sDefine ∈ namesL) = true from tt_true.mpr (by simp [namesL, sDefine])] at kIn
  have kK := ok_ref11_Key C s.heap k fk
  rw [kk] at kK
  have kC := ok_ref11_Key C s.heap (nmO c) fn
  rw [kn] at kC
  have kD := ok_ref18_Dict C (st3 s k o c) (nmO c) hs h4
  rw [show (st3 s k o c).heap = s.heap from rfl, hd, show tt (rdic s.heap (nmO c)) = true from tt_true.mpr hr] at kD
  have kF := ok_ref11_Find C s.heap (dO j) k j0 j1 hs
  have kS := ok_ref18_Suits C c o
  have w3 : IntKind.i64.wrap (3 - 1) = 2 := by decide
  rw [show tt (suitsP c o) = true from tt_true.mpr hsu] at kS
  have kT := ok_ref11_Store C s.heap (dO j) k o t j0 j1 hs hp
  have kI := ok_ref12_Instead C (st3 s k o c) 3 [o] (by decide) (by simp [st3]) (by simp [st3]) (by simp [st3]) (by simp)
  repeat' (conv => whnf
           first
             | (with_reducible refine sC (by kernel_rfl) ?_)
             | ((first | with_reducible refine sB ?_ | with_reducible refine sG0 ?_ | with_reducible refine sG1 ?_ | refine sP (by rfl) ?_); first | refine Or.inl ⟨by first | assumption | (simp only [eqO, Ob.eta, Cl.eta, tt_true, tt_false, decide_eq_true_eq, decide_eq_false_iff_not, beq_iff_eq, beq_eq_false_iff_ne, bne_iff_ne, ne_eq, Bool.not_eq_true, Bool.not_eq_false, Bool.not_eq_eq_eq_not, Bool.not_true, Bool.not_false, Decidable.not_not, Int.not_lt, Int.not_le, gt_iff_lt, ge_iff_le, bne_eq_false_iff_eq, List.length_map]; first | done | assumption | omega), ?_⟩ | refine Or.inr (Or.inl ⟨by first | assumption | (simp only [eqO, Ob.eta, Cl.eta, tt_true, tt_false, decide_eq_true_eq, decide_eq_false_iff_not, beq_iff_eq, beq_eq_false_iff_ne, bne_iff_ne, ne_eq, Bool.not_eq_true, Bool.not_eq_false, Bool.not_eq_eq_eq_not, Bool.not_true, Bool.not_false, Decidable.not_not, Int.not_lt, Int.not_le, gt_iff_lt, ge_iff_le, bne_eq_false_iff_eq, List.length_map]; first | done | assumption | omega), ?_⟩) | (refine Or.inr (Or.inr ⟨fun hsp => ?_, fun hsp => ?_⟩) <;> (try simp only [eqO, Ob.eta, Cl.eta, tt_true, tt_false, decide_eq_true_eq, decide_eq_false_iff_not, beq_iff_eq, beq_eq_false_iff_ne, bne_iff_ne, ne_eq, Bool.not_eq_true, Bool.not_eq_false, Bool.not_eq_eq_eq_not, Bool.not_true, Bool.not_false, Decidable.not_not, Int.not_lt, Int.not_le, gt_iff_lt, ge_iff_le, bne_eq_false_iff_eq, List.length_map] at hsp) <;> try subst hsp))
             | refine ⟨_, _, kN, ?_⟩
             | refine ⟨_, _, kIn, ?_⟩
             | refine ⟨_, _, kK, ?_⟩
             | refine ⟨_, _, kC, ?_⟩
             | refine ⟨_, _, kD, ?_⟩
             | refine ⟨_, _, kF, ?_⟩
             | refine ⟨_, _, kS, ?_⟩
             | refine ⟨_, _, kT, ?_⟩
             | refine ⟨_, _, kI, ?_⟩
             | refine sS (append_fM  (by rfl) (by first | exact prows_pv | exact prows_fsl | exact prows_own (by rfl) (by rfl)) (by rfl) (by (try simp only [List.length_map, List.length_append, List.length_take, List.length_drop, List.length_cons, List.length_nil, List.length_replicate, List.length_set, Int.toNat_natCast]); omega)) ?_
             | refine sS (append_fM (f := encO) (x' := [⟨_, _, _, _, _, _, _⟩]) (by rfl) (by first | exact prows_pv | exact prows_fsl | exact prows_own (by rfl) (by rfl)) (by rfl) (by (try simp only [List.length_map, List.length_append, List.length_take, List.length_drop, List.length_cons, List.length_nil, List.length_replicate, List.length_set, Int.toNat_natCast]); omega)) ?_
             | refine sS (append_fM (f := encC) (x' := [⟨_, _, _, _, _, _, _⟩]) (by rfl) (by first | exact prows_pv | exact prows_fsl | exact prows_own (by rfl) (by rfl)) (by rfl) (by (try simp only [List.length_map, List.length_append, List.length_take, List.length_drop, List.length_cons, List.length_nil, List.length_replicate, List.length_set, Int.toNat_natCast]); omega)) ?_
             | refine sS (append_oM  (by rfl) (by rfl) (by (try simp only [List.length_map, List.length_append, List.length_take, List.length_drop, List.length_cons, List.length_nil, List.length_replicate, List.length_set, Int.toNat_natCast]); omega) (by first | exact prows_pv | exact prows_fsl | exact prows_own (by rfl) (by rfl)) (by rfl) (by (try simp only [List.length_map, List.length_append, List.length_take, List.length_drop, List.length_cons, List.length_nil, List.length_replicate, List.length_set, Int.toNat_natCast]); omega)) ?_
             | refine sS (append_oM (f := encO) (x' := [⟨_, _, _, _, _, _, _⟩]) (by rfl) (by rfl) (by (try simp only [List.length_map, List.length_append, List.length_take, List.length_drop, List.length_cons, List.length_nil, List.length_replicate, List.length_set, Int.toNat_natCast]); omega) (by first | exact prows_pv | exact prows_fsl | exact prows_own (by rfl) (by rfl)) (by rfl) (by (try simp only [List.length_map, List.length_append, List.length_take, List.length_drop, List.length_cons, List.length_nil, List.length_replicate, List.length_set, Int.toNat_natCast]); omega)) ?_
             | refine sS (append_oM (f := encC) (x' := [⟨_, _, _, _, _, _, _⟩]) (by rfl) (by rfl) (by (try simp only [List.length_map, List.length_append, List.length_take, List.length_drop, List.length_cons, List.length_nil, List.length_replicate, List.length_set, Int.toNat_natCast]); omega) (by first | exact prows_pv | exact prows_fsl | exact prows_own (by rfl) (by rfl)) (by rfl) (by (try simp only [List.length_map, List.length_append, List.length_take, List.length_drop, List.length_cons, List.length_nil, List.length_replicate, List.length_set, Int.toNat_natCast]); omega)) ?_
             | refine sS (append_eM  (by rfl) (by first | exact prows_pv | exact prows_fsl | exact prows_own (by rfl) (by rfl)) (by rfl) (by (try simp only [List.length_map, List.length_append, List.length_take, List.length_drop, List.length_cons, List.length_nil, List.length_replicate, List.length_set, Int.toNat_natCast]); omega)) ?_
             | refine sS (append_eM (f := encO) (x' := [⟨_, _, _, _, _, _, _⟩]) (by rfl) (by first | exact prows_pv | exact prows_fsl | exact prows_own (by rfl) (by rfl)) (by rfl) (by (try simp only [List.length_map, List.length_append, List.length_take, List.length_drop, List.length_cons, List.length_nil, List.length_replicate, List.length_set, Int.toNat_natCast]); omega)) ?_
             | refine sS (append_eM (f := encC) (x' := [⟨_, _, _, _, _, _, _⟩]) (by rfl) (by first | exact prows_pv | exact prows_fsl | exact prows_own (by rfl) (by rfl)) (by rfl) (by (try simp only [List.length_map, List.length_append, List.length_take, List.length_drop, List.length_cons, List.length_nil, List.length_replicate, List.length_set, Int.toNat_natCast]); omega)) ?_
             | refine sS (slice_mM (by rfl) (by rfl) (by rfl) (by rfl) (by (try simp only [List.length_map, List.length_append, List.length_take, List.length_drop, List.length_cons, List.length_nil, List.length_replicate, List.length_set, Int.toNat_natCast]); omega) (by (try simp only [List.length_map, List.length_append, List.length_take, List.length_drop, List.length_cons, List.length_nil, List.length_replicate, List.length_set, Int.toNat_natCast]); omega) (by first | rfl | ((try simp only [List.length_map, List.length_append, List.length_take, List.length_drop, List.length_cons, List.length_nil, List.length_replicate, List.length_set, Int.toNat_natCast]); omega)) (by (try simp only [List.length_map, List.length_append, List.length_take, List.length_drop, List.length_cons, List.length_nil, List.length_replicate, List.length_set, Int.toNat_natCast]); omega)) ?_
             | refine sS (slice_M (by rfl) (by rfl) (by rfl) (by (try simp only [List.length_map, List.length_append, List.length_take, List.length_drop, List.length_cons, List.length_nil, List.length_replicate, List.length_set, Int.toNat_natCast]); omega) (by (try simp only [List.length_map, List.length_append, List.length_take, List.length_drop, List.length_cons, List.length_nil, List.length_replicate, List.length_set, Int.toNat_natCast]); omega) (by (try simp only [List.length_map, List.length_append, List.length_take, List.length_drop, List.length_cons, List.length_nil, List.length_replicate, List.length_set, Int.toNat_natCast]); omega)) ?_
             | refine sS (slice_fM (by rfl) (by rfl) (by rfl) (by (try simp only [List.length_map, List.length_append, List.length_take, List.length_drop, List.length_cons, List.length_nil, List.length_replicate, List.length_set, Int.toNat_natCast]); omega) (by (try simp only [List.length_map, List.length_append, List.length_take, List.length_drop, List.length_cons, List.length_nil, List.length_replicate, List.length_set, Int.toNat_natCast]); omega) (by (try simp only [List.length_map, List.length_append, List.length_take, List.length_drop, List.length_cons, List.length_nil, List.length_replicate, List.length_set, Int.toNat_natCast]); omega)) ?_
             | refine sS (sslice_lh (by rfl) (by rfl) (by rfl) (by (try simp only [List.length_map, List.length_append, List.length_take, List.length_drop, List.length_cons, List.length_nil, List.length_replicate, List.length_set, Int.toNat_natCast]); omega) (by (try simp only [List.length_map, List.length_append, List.length_take, List.length_drop, List.length_cons, List.length_nil, List.length_replicate, List.length_set, Int.toNat_natCast]); omega) (by (try simp only [List.length_map, List.length_append, List.length_take, List.length_drop, List.length_cons, List.length_nil, List.length_replicate, List.length_set, Int.toNat_natCast]); omega)) ?_
             | refine sS (iaddr_at (by rfl) (by rfl) (by omega) (row_at (d := cl0) (by omega) (by omega))) ?_
             | refine sS (iaddr_at (by rfl) (by rfl) (by omega) (row_at (d := ob0) (by omega) (by omega))) ?_
             | refine sS (rem_at (by rfl) (by rfl) (by omega)) ?_
             | refine sS (quo_at (by rfl) (by rfl) (by omega)) ?_
             | fail)
  all_goals (conv => whnf)
  all_goals (exact PV.le.refl _)
end Go.Ab.Td
