/- Saves: save. Under: nothing. -/
import Derived.Test.YtngmifmcohmfmaaDoorTdSb
namespace Go.Ab.Td
open Go Go.Ab
variable {P : Program}
set_option linter.unusedSimpArgs false
attribute [local irreducible] compat
/-- The graphics state of a state, as a row. -/
def grO (s : Sta) : List PV := [.int .i64 s.f5, .int .i64 s.f6, .int .i64 s.f7, .int .i64 s.f8, .int .i64 s.f9, .int .i64 s.f10, .sl 7 s.f11, .int .i64 s.f12, .int .i64 s.f13, .int .i64 s.f14, .int .i64 s.f15, .int .i64 s.f16, .int .i64 s.f17, .int .i64 s.f18, .int .i64 s.f19, .int .i64 s.f20, .int .i64 s.f21, .int .i64 s.f22, .int .i64 s.f23, .int .i64 s.f24, .int .i64 s.f25, .int .i64 s.f26, .int .i64 s.f27, .int .i64 s.f28, .int .i64 s.f29, .int .i64 s.f30, .int .i64 s.f31, .bool s.f32, .bool s.f33, .sl 47 s.f34, .int .i64 s.f35, .int .i64 s.f36, .int .i64 s.f37, .int .i64 s.f38, .int .i64 s.f39, .int .i64 s.f40, .int .i64 s.f41, .int .i64 s.f42, .sl 1 s.f43, .int .i64 s.f44, .int .i64 s.f45, .sl 2 s.f46, .int .i64 s.f47, .bool s.f48, .int .i64 s.f49, .str s.f50, .int .i64 s.f51, .int .i64 s.f52, .int .i64 s.f53, .int .i64 s.f54, .int .i64 s.f55, .int .i64 s.f56, .int .i64 s.f57, .int .i64 s.f58, .int .i64 s.f59, .int .i64 s.f60, .int .i64 s.f61]
/-- The object of a save. -/
def svO (n : Int) : Ob := ⟨12, false, n, [], 0, 0, 0⟩
/-- After save. -/
def svS (s : Sta) : Sta := { s with ops := s.ops ++ [svO (IntKind.i64.wrap (s.f4 + 1))], f4 := IntKind.i64.wrap (s.f4 + 1), f3 := s.f3 ++ [[.int .i64 (IntKind.i64.wrap (s.f4 + 1)), .sl 7 (s.heap.map encC), .int .i64 (s.f62.length : Int)]], f62 := s.f62 ++ [grO s] }


set_option maxHeartbeats 8000000 in
set_option maxRecDepth 100000 in
theorem ok_save_keeper_save (C : Laid P) (s : Sta) (h3 : s.f3.length < 10) (h62 : s.f62.length < 20) (ho : s.ops.length < 100) : OkC P G n_save_keeper_save [aS s] [] (.tup [aS (svS s), pI 0]) := by
  refine ok_fn C (k_save_keeper_save C) rfl ?_
  repeat' (conv => whnf
           first
             | (with_reducible refine sC (by kernel_rfl) ?_)
             | ((first | with_reducible refine sB ?_ | with_reducible refine sG0 ?_ | with_reducible refine sG1 ?_ | refine sP (by rfl) ?_); first | refine oT ?_ | refine oF ?_ | (refine Or.inr (Or.inr ⟨fun hsp => ?_, fun hsp => ?_⟩) <;> (try simp only [eqO, Ob.eta, Cl.eta, tt_true, tt_false, decide_eq_true_eq, decide_eq_false_iff_not, beq_iff_eq, beq_eq_false_iff_ne, bne_iff_ne, ne_eq, Bool.not_eq_true, Bool.not_eq_false, Bool.not_eq_eq_eq_not, Bool.not_true, Bool.not_false, Decidable.not_not, Int.not_lt, Int.not_le, gt_iff_lt, ge_iff_le, bne_eq_false_iff_eq, List.length_map] at hsp) <;> try subst hsp))
             | refine ⟨_, _, ok_stack_Push_f C _ _ _ _ _ _ _ _ _ _ _ _ _ _ _ _ _ _ _ _ _ _ _ _ _ _ _ _ _ _ _ _ _ _ _ _ _ _ _ _ _ _ _ _ _ _ _ _ _ _ _ _ _ _ _ _ _ _ _ _ _ _ _ _ _ _ _ [⟨_, _, _, _, _, _, _⟩] (by simp; omega), ?_⟩
             | refine sS (slice_m (rows := s.f3) (by rfl) (by rfl) (by rfl) (by rfl) (by omega) (by omega) (by rfl) (by simp)) ?_
             | refine sS (append_f (rows := (s.f3.take (s.f3.length : Int).toNat).drop (0 : Int).toNat) (by rfl) (by first | exact prows_pv | exact prows_fsl | exact prows_own (by rfl) (by rfl)) (by (try simp only [List.length_map, List.length_append, List.length_take, List.length_drop, List.length_cons, List.length_nil, List.length_replicate, List.length_set, Int.toNat_natCast]); omega)) ?_
             | refine sS (slice_m (rows := s.f62) (by rfl) (by rfl) (by rfl) (by rfl) (by omega) (by omega) (by rfl) (by simp)) ?_
             | refine sS (append_f (rows := (s.f62.take (s.f62.length : Int).toNat).drop (0 : Int).toNat) (by rfl) (by first | exact prows_pv | exact prows_fsl | exact prows_own (by rfl) (by rfl)) (by (try simp only [List.length_map, List.length_append, List.length_take, List.length_drop, List.length_cons, List.length_nil, List.length_replicate, List.length_set, Int.toNat_natCast]); omega)) ?_
             | fail)
  all_goals (conv => whnf)
  all_goals ((repeat' (first | (with_reducible exact PV.le.refl _) | exact PV.le.emp _ | exact LeL.nil | (with_reducible refine le_tup ?_) | (with_reducible refine le_agg ?_) | (refine LeL.cons ?_ ?_) | (with_reducible refine le_int ?_) | (with_reducible refine le_str ?_) | (with_reducible refine tt_T ?_) | (with_reducible refine tt_F ?_) | (with_reducible refine le_sle ?_) | (refine tt_B ?_))) <;> (first | rfl | exact PV.le.refl _ | (simp [grO, svS, svO]; done) | (refine le_of_eq ?_; simp [grO, svS, svO])))
end Go.Ab.Td
