/- SaveNests: the law. Under: nothing. -/
import Derived.Test.YtngmifmcohmfmaaDoorTdSh
import Derived.Test.YtngmifmcohmfmaaDoorAbGl
import Derived.Test.YtngmifmcohmfmaaDoorAbG6
namespace Go.Ab.Td
open Go Go.Ab
variable {P : Program}
set_option linter.unusedSimpArgs false
attribute [local irreducible] compat

set_option maxHeartbeats 8000000 in
set_option maxRecDepth 100000 in
theorem ok_law19_SaveNests (C : Laid P) (cells ops dicts : List (List PV)) (hc : ∀ r ∈ cells, WordR r) (ho : ∀ r ∈ ops, WordR r) (hd : ∀ r ∈ dicts, ∃ D, r = [.int .u8 D] ∧ 0 ≤ D ∧ D < 256) (k1 n1 : Int) (hk : 0 ≤ k1 ∧ k1 < 256) (hn : 0 ≤ n1 ∧ n1 < 256) : OkC P G n_law19_SaveNests [.agg [.sl 5 cells, .sl 5 ops, .sl 1 dicts], .int .u8 k1, .int .u8 n1] [] (.bool true) := by
  refine ok_fn C (k_law19_SaveNests C) rfl ?_
  obtain ⟨s, hs, kst⟩ := kit_stateT C cells ops dicts hc ho hd
  obtain ⟨o0, d, h, rfl, hh, -, -, hd2, hd6, hdd⟩ := hs
  have kS0 := ok_law19_start C cells ops dicts (mkS o0 d h) kst
  have q1 : 0 ≤ k1.tmod 10 ∧ k1.tmod 10 < 10 := ⟨Int.tmod_nonneg _ hk.1, Int.tmod_lt_of_pos _ (by decide)⟩
  obtain ⟨mn, hmn⟩ : ∃ mn : Nat, (mn : Int) = 1 + k1.tmod 10 := ⟨(1 + k1.tmod 10).toNat, by omega⟩
  have hm1 : 1 ≤ mn ∧ mn ≤ 10 := by omega
  have hmw : IntKind.i64.wrap (1 + IntKind.i64.wrap (k1.tmod 10)) = (mn : Int) := by rw [wrap_small (v := k1.tmod 10) (by omega) (by omega), wrap_small (by omega) (by omega), hmn]
  have hnw : IntKind.i64.wrap n1 = n1 := wrap_small (by omega) (by omega)
  have q2 : 0 ≤ n1.tmod (mn : Int) ∧ n1.tmod (mn : Int) < (mn : Int) := ⟨Int.tmod_nonneg _ hn.1, Int.tmod_lt_of_pos _ (by omega)⟩
  obtain ⟨a, haa⟩ : ∃ a : Nat, (a : Int) = n1.tmod (mn : Int) := ⟨(n1.tmod (mn : Int)).toNat, by omega⟩
  have hai : a < mn := by omega
  have haw : IntKind.i64.wrap (1 + (IntKind.i64.wrap n1).tmod (IntKind.i64.wrap (1 + IntKind.i64.wrap (k1.tmod 10)))) = ((a + 1 : Nat) : Int) := by rw [hnw, hmw, wrap_small (by omega) (by omega)]; omega
  have haw' : IntKind.i64.wrap (1 + (IntKind.i64.wrap n1).tmod (mn : Int)) = ((a + 1 : Nat) : Int) := by rw [← hmw]; exact haw
  have hmz : IntKind.i64.wrap (1 + IntKind.i64.wrap (k1.tmod 10)) ≠ 0 := by rw [hmw]; omega
  have wA1 : IntKind.i64.wrap (((a + 1 : Nat) : Int) - 1) = (a : Int) := by rw [wrap_small (by omega) (by omega)]; omega
  have wA2 : IntKind.i64.wrap (10 + ((a + 1 : Nat) : Int)) = 11 + (a : Int) := by rw [wrap_small (by omega) (by omega)]; omega
  have wA3 : IntKind.i64.wrap (11 + (a : Int) - 1) = 10 + (a : Int) := by rw [wrap_small (by omega) (by omega)]; omega
  have kSa : OkC P G n_law19_saved [pI (IntKind.i64.wrap (1 + (IntKind.i64.wrap n1).tmod (IntKind.i64.wrap (1 + IntKind.i64.wrap (k1.tmod 10)))))] [] (aO (svO ((a + 1 : Nat) : Int))) := by rw [haw]; exact ok_law19_saved C _
  repeat' (conv => whnf
           first
             | (with_reducible refine sC (by kernel_rfl) ?_)
             | ((first | with_reducible refine sB ?_ | with_reducible refine sG0 ?_ | with_reducible refine sG1 ?_ | refine sP (by rfl) ?_); first | refine Or.inl ⟨by first | assumption | (simp only [eqO, Ob.eta, Cl.eta, tt_true, tt_false, decide_eq_true_eq, decide_eq_false_iff_not, beq_iff_eq, beq_eq_false_iff_ne, bne_iff_ne, ne_eq, Bool.not_eq_true, Bool.not_eq_false, Bool.not_eq_eq_eq_not, Bool.not_true, Bool.not_false, Decidable.not_not, Int.not_lt, Int.not_le, gt_iff_lt, ge_iff_le, bne_eq_false_iff_eq, List.length_map, hmw]; first | done | assumption | omega), ?_⟩ | refine Or.inr (Or.inl ⟨by first | assumption | (simp only [eqO, Ob.eta, Cl.eta, tt_true, tt_false, decide_eq_true_eq, decide_eq_false_iff_not, beq_iff_eq, beq_eq_false_iff_ne, bne_iff_ne, ne_eq, Bool.not_eq_true, Bool.not_eq_false, Bool.not_eq_eq_eq_not, Bool.not_true, Bool.not_false, Decidable.not_not, Int.not_lt, Int.not_le, gt_iff_lt, ge_iff_le, bne_eq_false_iff_eq, List.length_map, hmw]; first | done | assumption | omega), ?_⟩) | (refine Or.inr (Or.inr ⟨fun hsp => ?_, fun hsp => ?_⟩) <;> (try simp only [eqO, Ob.eta, Cl.eta, tt_true, tt_false, decide_eq_true_eq, decide_eq_false_iff_not, beq_iff_eq, beq_eq_false_iff_ne, bne_iff_ne, ne_eq, Bool.not_eq_true, Bool.not_eq_false, Bool.not_eq_eq_eq_not, Bool.not_true, Bool.not_false, Decidable.not_not, Int.not_lt, Int.not_le, gt_iff_lt, ge_iff_le, bne_eq_false_iff_eq, List.length_map, hmw] at hsp) <;> try subst hsp))
             | refine ⟨_, _, TdW19.ok C, ?_⟩
             | refine ⟨_, _, kS0, ?_⟩
             | fail)
  all_goals (conv => whnf)
  intro X hX hW
  refine loopI hX (fun st (j : Nat) => st.upd [(28, .pv (pI (j : Int)))] [(24, .box 67 [.emp 7 :: ((encS (stJ d h j)).tail.map .pv)] false)]) (fun j k => j + k = mn) 0 mn (by (conv => whnf); first | done | rfl) (by omega) ?_
  intro m j ih hI
  by_cases hjm : j < mn
  · have w1 : IntKind.i64.wrap ((j : Int) + 1) = ((j + 1 : Nat) : Int) := by rw [wrap_small (by omega) (by omega)]; omega
    have kSv : OkC P G n_save_Do [.agg (.emp 7 :: (encS (stK d h j)).tail), .str [115, 97, 118, 101]] [] (.tup [aS { stJ d h (j + 1) with ops := [svO ((j + 1 : Nat) : Int)] }, pI 0]) := okc_arg (ok_nest_save C d h j (by omega)) (.cons (le_agg (.cons (.emp 7) (.refl _))) (.refl _))
    have kSd : OkC P G n_law19_saved [pI (IntKind.i64.wrap ((j : Int) + 1))] [] (aO (svO ((j + 1 : Nat) : Int))) := by rw [w1]; exact ok_law19_saved C _
    repeat' (conv => whnf
             first
               | (with_reducible refine sC (by kernel_rfl) ?_)
               | ((first | with_reducible refine sB ?_ | with_reducible refine sG0 ?_ | with_reducible refine sG1 ?_ | refine sP (by rfl) ?_); first | refine Or.inl ⟨by first | assumption | (simp only [eqO, Ob.eta, Cl.eta, tt_true, tt_false, decide_eq_true_eq, decide_eq_false_iff_not, beq_iff_eq, beq_eq_false_iff_ne, bne_iff_ne, ne_eq, Bool.not_eq_true, Bool.not_eq_false, Bool.not_eq_eq_eq_not, Bool.not_true, Bool.not_false, Decidable.not_not, Int.not_lt, Int.not_le, gt_iff_lt, ge_iff_le, bne_eq_false_iff_eq, List.length_map, hmw]; first | done | assumption | omega), ?_⟩ | refine Or.inr (Or.inl ⟨by first | assumption | (simp only [eqO, Ob.eta, Cl.eta, tt_true, tt_false, decide_eq_true_eq, decide_eq_false_iff_not, beq_iff_eq, beq_eq_false_iff_ne, bne_iff_ne, ne_eq, Bool.not_eq_true, Bool.not_eq_false, Bool.not_eq_eq_eq_not, Bool.not_true, Bool.not_false, Decidable.not_not, Int.not_lt, Int.not_le, gt_iff_lt, ge_iff_le, bne_eq_false_iff_eq, List.length_map, hmw]; first | done | assumption | omega), ?_⟩) | (refine Or.inr (Or.inr ⟨fun hsp => ?_, fun hsp => ?_⟩) <;> (try simp only [eqO, Ob.eta, Cl.eta, tt_true, tt_false, decide_eq_true_eq, decide_eq_false_iff_not, beq_iff_eq, beq_eq_false_iff_ne, bne_iff_ne, ne_eq, Bool.not_eq_true, Bool.not_eq_false, Bool.not_eq_eq_eq_not, Bool.not_true, Bool.not_false, Decidable.not_not, Int.not_lt, Int.not_le, gt_iff_lt, ge_iff_le, bne_eq_false_iff_eq, List.length_map, hmw] at hsp) <;> try subst hsp))
               | refine ⟨_, _, kSv, ?_⟩
               | refine ⟨_, _, kSd, ?_⟩
               | refine sS (iaddr_at (j := 0) (row := encO (svO ((j + 1 : Nat) : Int))) (by rfl) (by rfl) (by omega) (by rfl)) ?_
               | fail)
    all_goals (conv => whnf)
    all_goals (refine ih (m - 1) (j + 1) _ (by omega) (by omega) (by (conv => whnf); first | done | rfl | (rw [w1]; rfl) | (simp (disch := omega) only [wrap_succ])))
  · have ej : mn = j := by omega
    subst ej
    have kW : OkC P G n_law19_with [.agg (.emp 7 :: (encS (stJ d h mn)).tail), .sl 7 (List.map encO [svO ((a + 1 : Nat) : Int)])] [] (aS { stJ d h mn with ops := [svO ((a + 1 : Nat) : Int)] }) := okc_arg (ok_law19_with C (stJ d h mn) (svO ((a + 1 : Nat) : Int)) rfl) (.cons (le_agg (.cons (.emp 7) (.refl _))) (.refl _))
    have kR := ok_nest C { stJ d h mn with ops := [svO ((a + 1 : Nat) : Int)] } d h hai (by omega) rfl rfl rfl rfl (by omega) hdd
    obtain ⟨r, hr⟩ : ∃ r, r = rsS { stJ d h mn with ops := [svO ((a + 1 : Nat) : Int)] } [] h (gsT d h a) a a := ⟨_, rfl⟩
    rw [← hr] at kR
    have hr0 : r.ops = [] := by rw [hr]; rfl
    have hr3 : r.f3 = (sns h a).map encSn := by rw [hr]; exact sns_take h (by omega)
    have hr62 : r.f62 = (gss d h a).map grO := by rw [hr]; exact gss_take d h (by omega)
    have hrd : r.dicts = d := by rw [hr]; rfl
    have hr4 : r.f4 = (mn : Int) := by rw [hr]; rfl
    have hr45 : r.f45 = 10 + (a : Int) := by rw [hr]; rfl
    have hl3 : r.f3.length = a := by rw [hr3, List.length_map, sns_len]
    have hl62 : r.f62.length = a := by rw [hr62, List.length_map, gss_len]
    clear hr
    repeat' (conv => whnf
             first
               | (with_reducible refine sC (by kernel_rfl) ?_)
               | ((first | with_reducible refine sB ?_ | with_reducible refine sG0 ?_ | with_reducible refine sG1 ?_ | refine sP (by rfl) ?_); first | refine Or.inl ⟨by first | assumption | (simp only [eqO, Ob.eta, Cl.eta, tt_true, tt_false, decide_eq_true_eq, decide_eq_false_iff_not, beq_iff_eq, beq_eq_false_iff_ne, bne_iff_ne, ne_eq, Bool.not_eq_true, Bool.not_eq_false, Bool.not_eq_eq_eq_not, Bool.not_true, Bool.not_false, Decidable.not_not, Int.not_lt, Int.not_le, gt_iff_lt, ge_iff_le, bne_eq_false_iff_eq, List.length_map, hmw, haw, haw', wA1, wA2, wA3, hl3, hl62, hr4, hr45]; first | done | assumption | omega), ?_⟩ | refine Or.inr (Or.inl ⟨by first | assumption | (simp only [eqO, Ob.eta, Cl.eta, tt_true, tt_false, decide_eq_true_eq, decide_eq_false_iff_not, beq_iff_eq, beq_eq_false_iff_ne, bne_iff_ne, ne_eq, Bool.not_eq_true, Bool.not_eq_false, Bool.not_eq_eq_eq_not, Bool.not_true, Bool.not_false, Decidable.not_not, Int.not_lt, Int.not_le, gt_iff_lt, ge_iff_le, bne_eq_false_iff_eq, List.length_map, hmw, haw, haw', wA1, wA2, wA3, hl3, hl62, hr4, hr45]; first | done | assumption | omega), ?_⟩) | (refine Or.inr (Or.inr ⟨fun hsp => ?_, fun hsp => ?_⟩) <;> (try simp only [eqO, Ob.eta, Cl.eta, tt_true, tt_false, decide_eq_true_eq, decide_eq_false_iff_not, beq_iff_eq, beq_eq_false_iff_ne, bne_iff_ne, ne_eq, Bool.not_eq_true, Bool.not_eq_false, Bool.not_eq_eq_eq_not, Bool.not_true, Bool.not_false, Decidable.not_not, Int.not_lt, Int.not_le, gt_iff_lt, ge_iff_le, bne_eq_false_iff_eq, List.length_map, hmw, haw, haw', wA1, wA2, wA3, hl3, hl62, hr4, hr45] at hsp) <;> try subst hsp))
               | refine ⟨_, _, kSa, ?_⟩
               | refine ⟨_, _, kW, ?_⟩
               | refine ⟨_, _, kR, ?_⟩
               | refine sS (rem_at (k := .i64) (a := IntKind.i64.wrap n1) (by rfl) (by rfl) hmz) ?_
               | fail)
    all_goals (conv => whnf)
    intro Y hY hWY
    refine loopI hY (fun st (i : Nat) => st.upd [(15, .pv (pI ((i + 1 : Nat) : Int)))] []) (fun i k => i + k = mn) 0 mn (by (conv => whnf); first | done | rfl) (by omega) ?_
    intro m i ih hI
    have kSj := ok_law19_saved C ((i + 1 : Nat) : Int)
    have kWj := ok_law19_with C r (svO ((i + 1 : Nat) : Int)) hr0
    have w1 : IntKind.i64.wrap (((i + 1 : Nat) : Int) + 1) = ((i + 1 + 1 : Nat) : Int) := by rw [wrap_small (by omega) (by omega)]; omega
    by_cases him : i < mn
    · by_cases hia : i < a
      · have kRj := ok_nest C { r with ops := [svO ((i + 1 : Nat) : Int)] } d h hia (by omega) rfl hr3 hr62 hrd (by omega) hdd
        obtain ⟨r2, hr2⟩ : ∃ r2, r2 = rsS { r with ops := [svO ((i + 1 : Nat) : Int)] } [] h (gsT d h i) i i := ⟨_, rfl⟩
        rw [← hr2] at kRj
        have h45 : r2.f45 = 10 + (i : Int) := by rw [hr2]; rfl
        clear hr2
        have wI2 : IntKind.i64.wrap (10 + ((i + 1 : Nat) : Int)) = 11 + (i : Int) := by rw [wrap_small (by omega) (by omega)]; omega
        have wI3 : IntKind.i64.wrap (11 + (i : Int) - 1) = 10 + (i : Int) := by rw [wrap_small (by omega) (by omega)]; omega
        repeat' (conv => whnf
                 first
                   | (with_reducible refine sC (by kernel_rfl) ?_)
                   | ((first | with_reducible refine sB ?_ | with_reducible refine sG0 ?_ | with_reducible refine sG1 ?_ | refine sP (by rfl) ?_); first | refine Or.inl ⟨by first | assumption | (simp only [eqO, Ob.eta, Cl.eta, tt_true, tt_false, decide_eq_true_eq, decide_eq_false_iff_not, beq_iff_eq, beq_eq_false_iff_ne, bne_iff_ne, ne_eq, Bool.not_eq_true, Bool.not_eq_false, Bool.not_eq_eq_eq_not, Bool.not_true, Bool.not_false, Decidable.not_not, Int.not_lt, Int.not_le, gt_iff_lt, ge_iff_le, bne_eq_false_iff_eq, List.length_map, hmw, haw, haw', wI2, wI3, h45]; first | done | assumption | omega), ?_⟩ | refine Or.inr (Or.inl ⟨by first | assumption | (simp only [eqO, Ob.eta, Cl.eta, tt_true, tt_false, decide_eq_true_eq, decide_eq_false_iff_not, beq_iff_eq, beq_eq_false_iff_ne, bne_iff_ne, ne_eq, Bool.not_eq_true, Bool.not_eq_false, Bool.not_eq_eq_eq_not, Bool.not_true, Bool.not_false, Decidable.not_not, Int.not_lt, Int.not_le, gt_iff_lt, ge_iff_le, bne_eq_false_iff_eq, List.length_map, hmw, haw, haw', wI2, wI3, h45]; first | done | assumption | omega), ?_⟩) | (refine Or.inr (Or.inr ⟨fun hsp => ?_, fun hsp => ?_⟩) <;> (try simp only [eqO, Ob.eta, Cl.eta, tt_true, tt_false, decide_eq_true_eq, decide_eq_false_iff_not, beq_iff_eq, beq_eq_false_iff_ne, bne_iff_ne, ne_eq, Bool.not_eq_true, Bool.not_eq_false, Bool.not_eq_eq_eq_not, Bool.not_true, Bool.not_false, Decidable.not_not, Int.not_lt, Int.not_le, gt_iff_lt, ge_iff_le, bne_eq_false_iff_eq, List.length_map, hmw, haw, haw', wI2, wI3, h45] at hsp) <;> try subst hsp))
                   | refine ⟨_, _, kSj, ?_⟩
                   | refine ⟨_, _, kWj, ?_⟩
                   | refine ⟨_, _, kRj, ?_⟩
                   | fail)
        all_goals (conv => whnf)
        all_goals (refine ih (m - 1) (i + 1) _ (by omega) (by omega) (by (conv => whnf); first | done | rfl | (rw [w1]; rfl) | (simp (disch := omega) only [wrap_succ])))
      · have kRj := ok_nest_no C { r with ops := [svO ((i + 1 : Nat) : Int)] } h (j := a) (n := ((i + 1 : Nat) : Int)) (by omega) (by omega) rfl hr3
        repeat' (conv => whnf
                 first
                   | (with_reducible refine sC (by kernel_rfl) ?_)
                   | ((first | with_reducible refine sB ?_ | with_reducible refine sG0 ?_ | with_reducible refine sG1 ?_ | refine sP (by rfl) ?_); first | refine Or.inl ⟨by first | assumption | (simp only [eqO, Ob.eta, Cl.eta, tt_true, tt_false, decide_eq_true_eq, decide_eq_false_iff_not, beq_iff_eq, beq_eq_false_iff_ne, bne_iff_ne, ne_eq, Bool.not_eq_true, Bool.not_eq_false, Bool.not_eq_eq_eq_not, Bool.not_true, Bool.not_false, Decidable.not_not, Int.not_lt, Int.not_le, gt_iff_lt, ge_iff_le, bne_eq_false_iff_eq, List.length_map, hmw, haw, haw']; first | done | assumption | omega), ?_⟩ | refine Or.inr (Or.inl ⟨by first | assumption | (simp only [eqO, Ob.eta, Cl.eta, tt_true, tt_false, decide_eq_true_eq, decide_eq_false_iff_not, beq_iff_eq, beq_eq_false_iff_ne, bne_iff_ne, ne_eq, Bool.not_eq_true, Bool.not_eq_false, Bool.not_eq_eq_eq_not, Bool.not_true, Bool.not_false, Decidable.not_not, Int.not_lt, Int.not_le, gt_iff_lt, ge_iff_le, bne_eq_false_iff_eq, List.length_map, hmw, haw, haw']; first | done | assumption | omega), ?_⟩) | (refine Or.inr (Or.inr ⟨fun hsp => ?_, fun hsp => ?_⟩) <;> (try simp only [eqO, Ob.eta, Cl.eta, tt_true, tt_false, decide_eq_true_eq, decide_eq_false_iff_not, beq_iff_eq, beq_eq_false_iff_ne, bne_iff_ne, ne_eq, Bool.not_eq_true, Bool.not_eq_false, Bool.not_eq_eq_eq_not, Bool.not_true, Bool.not_false, Decidable.not_not, Int.not_lt, Int.not_le, gt_iff_lt, ge_iff_le, bne_eq_false_iff_eq, List.length_map, hmw, haw, haw'] at hsp) <;> try subst hsp))
                   | refine ⟨_, _, kSj, ?_⟩
                   | refine ⟨_, _, kWj, ?_⟩
                   | refine ⟨_, _, kRj, ?_⟩
                   | fail)
        all_goals (conv => whnf)
        all_goals (refine ih (m - 1) (i + 1) _ (by omega) (by omega) (by (conv => whnf); first | done | rfl | (rw [w1]; rfl) | (simp (disch := omega) only [wrap_succ])))
    · repeat' (conv => whnf
               first
                 | (with_reducible refine sC (by kernel_rfl) ?_)
                 | ((first | with_reducible refine sB ?_ | with_reducible refine sG0 ?_ | with_reducible refine sG1 ?_ | refine sP (by rfl) ?_); first | refine Or.inl ⟨by first | assumption | (simp only [eqO, Ob.eta, Cl.eta, tt_true, tt_false, decide_eq_true_eq, decide_eq_false_iff_not, beq_iff_eq, beq_eq_false_iff_ne, bne_iff_ne, ne_eq, Bool.not_eq_true, Bool.not_eq_false, Bool.not_eq_eq_eq_not, Bool.not_true, Bool.not_false, Decidable.not_not, Int.not_lt, Int.not_le, gt_iff_lt, ge_iff_le, bne_eq_false_iff_eq, List.length_map, hmw, haw, haw']; first | done | assumption | omega), ?_⟩ | refine Or.inr (Or.inl ⟨by first | assumption | (simp only [eqO, Ob.eta, Cl.eta, tt_true, tt_false, decide_eq_true_eq, decide_eq_false_iff_not, beq_iff_eq, beq_eq_false_iff_ne, bne_iff_ne, ne_eq, Bool.not_eq_true, Bool.not_eq_false, Bool.not_eq_eq_eq_not, Bool.not_true, Bool.not_false, Decidable.not_not, Int.not_lt, Int.not_le, gt_iff_lt, ge_iff_le, bne_eq_false_iff_eq, List.length_map, hmw, haw, haw']; first | done | assumption | omega), ?_⟩) | (refine Or.inr (Or.inr ⟨fun hsp => ?_, fun hsp => ?_⟩) <;> (try simp only [eqO, Ob.eta, Cl.eta, tt_true, tt_false, decide_eq_true_eq, decide_eq_false_iff_not, beq_iff_eq, beq_eq_false_iff_ne, bne_iff_ne, ne_eq, Bool.not_eq_true, Bool.not_eq_false, Bool.not_eq_eq_eq_not, Bool.not_true, Bool.not_false, Decidable.not_not, Int.not_lt, Int.not_le, gt_iff_lt, ge_iff_le, bne_eq_false_iff_eq, List.length_map, hmw, haw, haw'] at hsp) <;> try subst hsp))
                 | fail)
      all_goals (conv => whnf)
      all_goals exact PV.le.refl _
end Go.Ab.Td
