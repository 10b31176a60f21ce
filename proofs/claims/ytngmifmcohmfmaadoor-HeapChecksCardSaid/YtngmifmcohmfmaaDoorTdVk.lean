/- HeapChecks: the law. Under: nothing. -/
import Derived.Test.YtngmifmcohmfmaaDoorTdVl
import Derived.Test.YtngmifmcohmfmaaDoorTdVg
import Derived.Test.YtngmifmcohmfmaaDoorTdAr4
import Derived.Test.YtngmifmcohmfmaaDoorTdW11
import Derived.Test.YtngmifmcohmfmaaDoorTdSm
import Derived.Test.YtngmifmcohmfmaaDoorTdPu
namespace Go.Ab.Td
open Go Go.Ab
variable {P : Program}
set_option linter.unusedSimpArgs false
attribute [local irreducible] compat
theorem ttT {p : Prop} (h : p) : tt p = true := tt_true.mpr h
theorem ttF {p : Prop} (h : ¬ p) : tt p = false := tt_false.mpr h
theorem small_app {h : List Cl} {c : Cl} (hl : h.length ≤ 100) (hs : small h) (hc : c.small) : small (h ++ [c]) := by
  refine ⟨by simp; omega, fun d hd => ?_⟩
  rcases List.mem_append.1 hd with hd | hd
  · exact hs.2 d hd
  · simp only [List.mem_singleton] at hd; subst hd; exact hc
theorem nC_app {h : List Cl} {c : Cl} (hs : ∀ d ∈ h, Td.nC d) (hc : Td.nC c) : ∀ d ∈ h ++ [c], Td.nC d := by
  intro d hd
  rcases List.mem_append.1 hd with hd | hd
  · exact hs d hd
  · simp only [List.mem_singleton] at hd; subst hd; exact hc
theorem cut_small (c : Cl) : (cutC c).small := by
  refine ⟨?_, ?_, ?_, ?_⟩ <;> simp only [cutC, List.length_take] <;> omega
theorem small_bigH {h : List Cl} (hs : small h) : big h := ⟨by have := hs.1; omega, fun c hc => by obtain ⟨h1, h2, h3, h4⟩ := hs.2 c hc; exact ⟨by omega, by omega, by omega⟩⟩
theorem none_yesC {e : Int} : (decide (([] : List Cl) = []) && decide (e = e)) = true := by simp


set_option maxHeartbeats 4000000 in
set_option maxRecDepth 100000 in
theorem ok_law11_HeapChecks (C : Laid P) (x0 : List Cl) (hx0 : ∀ c ∈ x0, Td.nC c) (cells ops dicts : List (List PV)) (hc : ∀ r ∈ cells, WordN r) (c0 : Cl) (hc0 : Td.nC c0) (o0 : Ob) (ho0 : o0.n < 9223372036854775808) (w : Wd) : OkC P G n_law11_HeapChecks [.sl 7 (List.map encC x0), .agg [.sl 5 cells, .sl 5 ops, .sl 1 dicts], aC c0, aO o0, .agg w.row] [] (.bool true) := by
  refine ok_fn C (k_law11_HeapChecks C) rfl ?_
  obtain ⟨h0, ht, kh⟩ := kit_heapV C cells ops dicts hc
  obtain ⟨c1, hc1⟩ : ∃ c1, c1 = cutC c0 := ⟨_, rfl⟩
  have cs1 : c1.small := by rw [hc1]; exact cut_small c0
  have cn1 : Td.nC c1 := by rw [hc1]; exact nC_cut hc0
  have kFew : OkC P G n_law11_few [.sl 7 (List.map encC [c0])] [] (.sl 7 (List.map encC [c1])) := by rw [hc1]; exact ok_law11_few C [c0]
  clear hc1
  have kC0 := ok_heap_Check C h0 ht.1.small (fun c hx => (clOk.nC (ht.1.ok c hx)).objs)
  rw [((chk_cases h0).resolve_right (fun hx => hx.1 ht.valid)).2] at kC0
  obtain ⟨hs, hhs⟩ : ∃ hs, hs = [fewL x0, h0] := ⟨_, rfl⟩
  have hlen : hs.length = 2 := by rw [hhs]; rfl
  have hsm : ∀ h ∈ hs, small h ∧ h.length ≤ 100 ∧ ∀ c ∈ h, Td.nC c := by
    intro h hh
    rw [hhs] at hh
    simp only [List.mem_cons, List.not_mem_nil, or_false] at hh
    rcases hh with rfl | rfl
    · exact ⟨few_small x0, by simp [fewL]; omega, nC_few hx0⟩
    · exact ⟨ht.1.small, by have := ht.1.len; omega, fun c hx => clOk.nC (ht.1.ok c hx)⟩
  repeat' (conv => whnf
           first
             | (with_reducible refine sC (by kernel_rfl) ?_)
             | ((first | with_reducible refine sB ?_ | with_reducible refine sG0 ?_ | with_reducible refine sG1 ?_ | refine sP (by rfl) ?_); first | refine oT ?_ | refine oF ?_ | (refine Or.inr (Or.inr ⟨fun hsp => ?_, fun hsp => ?_⟩) <;> (try simp only [eqO, Ob.eta, Cl.eta, tt_true, tt_false, decide_eq_true_eq, decide_eq_false_iff_not, beq_iff_eq, beq_eq_false_iff_ne, bne_iff_ne, ne_eq, Bool.not_eq_true, Bool.not_eq_false, Bool.not_eq_eq_eq_not, Bool.not_true, Bool.not_false, Decidable.not_not, Int.not_lt, Int.not_le, gt_iff_lt, ge_iff_le, bne_eq_false_iff_eq, List.length_map] at hsp) <;> try subst hsp))
             | refine ⟨_, _, TdW11.ok C, ?_⟩
             | refine ⟨_, _, kFew, ?_⟩
             | refine ⟨_, _, ok_law11_either C x0 cells ops dicts h0 kh, ?_⟩
             | fail)
  all_goals (conv => whnf)
  intro X hX hWX
  refine loopI hX (fun st (i : Nat) => st.upd [(30, .pv (pI (i : Int)))] []) (fun i k => i + k = hs.length ∧ (hs.drop i).length = hs.length - i) 0 hs.length (by (conv => whnf); first | done | rfl) (by simp) ?_
  intro m i ih hI
  rcases at_or hs i with ⟨h, hlt, hx⟩ | hge
  · obtain ⟨hsmh, hsl, hnh⟩ := hsm h (List.mem_of_getElem? hx)
    have hxx : [slC (fewL x0), slC h0][i]? = some (slC h) := by rw [show [slC (fewL x0), slC h0] = hs.map (fun h => slC h) by rw [hhs]; rfl, List.getElem?_map, hx]; rfl
    have kC := ok_heap_Check C h hsmh (fun c hx => (hnh c hx).objs)
    have kR := ok_ref11_Right C h hsmh
    rcases chk_cases h with ⟨hv, e⟩ | ⟨hv, e⟩
    · rw [e] at kC
      rw [ttT hv] at kR
      repeat' (conv => whnf
               first
                 | (with_reducible refine sC (by kernel_rfl) ?_)
                 | ((first | with_reducible refine sB ?_ | with_reducible refine sG0 ?_ | with_reducible refine sG1 ?_ | refine sP (by rfl) ?_); first | refine oT ?_ | refine oF ?_ | (refine Or.inr (Or.inr ⟨fun hsp => ?_, fun hsp => ?_⟩) <;> (try simp only [eqO, Ob.eta, Cl.eta, tt_true, tt_false, decide_eq_true_eq, decide_eq_false_iff_not, beq_iff_eq, beq_eq_false_iff_ne, bne_iff_ne, ne_eq, Bool.not_eq_true, Bool.not_eq_false, Bool.not_eq_eq_eq_not, Bool.not_true, Bool.not_false, Decidable.not_not, Int.not_lt, Int.not_le, gt_iff_lt, ge_iff_le, bne_eq_false_iff_eq, List.length_map] at hsp) <;> try subst hsp))
                 | refine ⟨_, _, kC, ?_⟩
                 | refine ⟨_, _, kR, ?_⟩
                 | refine ⟨_, _, ok_heap_Total C h (by omega), ?_⟩
                 | refine ⟨_, _, ok_ref11_Total C h (by omega), ?_⟩
                 | refine ⟨_, _, ok_law11_objs C o0 w h hsmh, ?_⟩
                 | refine ⟨_, _, ok_heap_Size_f C c1.kind c1.bytes c1.items c1.keys c1.vals c1.max c1.at', ?_⟩
                 | refine ⟨_, _, ok_ref11_Size_f C c1.kind c1.bytes c1.items c1.keys c1.vals c1.max c1.at', ?_⟩
                 | refine sS (index_false (a := slC (fewL x0)) (b := slC h0) (y := slC h) hxx (by rfl) (by rfl) (by rfl)) ?_
                 | fail)
      all_goals (conv => whnf)
      all_goals (
      intro Y hY hWY
      obtain ⟨os, hos⟩ : ∃ os, os = [o0, objO h w.K w.A w.B w.N] := ⟨_, rfl⟩
      have hol : os.length = 2 := by rw [hos]; rfl
      have hon : ∀ y ∈ os, y.n < 9223372036854775808 := by
        intro y hy
        rw [hos] at hy
        simp only [List.mem_cons, List.not_mem_nil, or_false] at hy
        rcases hy with rfl | rfl
        · exact ho0
        · exact obj_n h _ _ _ _ w.hA w.hN
      refine loopI hY (fun st (j : Nat) => st.upd [(67, .pv (pI (j : Int)))] []) (fun j k => j + k = os.length ∧ (os.drop j).length = os.length - j) 0 os.length (by (conv => whnf); first | done | rfl) (by simp) ?_
      intro m2 j jh hJ
      rcases at_or os j with ⟨y, hlt2, hy⟩ | hge2
      · have hn := hon y (List.mem_of_getElem? hy)
        have hyy : [encO o0, encO (objO h w.K w.A w.B w.N)][j]? = some (encO y) := by rw [show [encO o0, encO (objO h w.K w.A w.B w.N)] = os.map encO by rw [hos]; rfl, List.getElem?_map, hy]; rfl
        have kF1 := ok_heap_Fits C h y hn
        have kF2 := ok_ref11_Fits C h y
        by_cases hf : fits h y
        · rw [ttT hf] at kF1 kF2
          repeat' (conv => whnf
                   first
                     | (with_reducible refine sC (by kernel_rfl) ?_)
                     | ((first | with_reducible refine sB ?_ | with_reducible refine sG0 ?_ | with_reducible refine sG1 ?_ | refine sP (by rfl) ?_); first | refine oT ?_ | refine oF ?_ | (refine Or.inr (Or.inr ⟨fun hsp => ?_, fun hsp => ?_⟩) <;> (try simp only [eqO, Ob.eta, Cl.eta, tt_true, tt_false, decide_eq_true_eq, decide_eq_false_iff_not, beq_iff_eq, beq_eq_false_iff_ne, bne_iff_ne, ne_eq, Bool.not_eq_true, Bool.not_eq_false, Bool.not_eq_eq_eq_not, Bool.not_true, Bool.not_false, Decidable.not_not, Int.not_lt, Int.not_le, gt_iff_lt, ge_iff_le, bne_eq_false_iff_eq, List.length_map] at hsp) <;> try subst hsp))
                     | refine ⟨_, _, kF1, ?_⟩
                     | refine ⟨_, _, kF2, ?_⟩
                     | refine sS (index_true (a := encO o0) (b := encO (objO h w.K w.A w.B w.N)) (y := encO y) hyy (by rfl) (by rfl) (by rfl) (by rfl) (by rfl)) ?_
                     | fail)
          all_goals (conv => whnf)
          all_goals first
            | (refine jh (m2 - 1) (j + 1) _ (by omega) ⟨by (try dsimp only); omega, ?_⟩ (by (conv => whnf); first | done | rfl | (simp (disch := omega) only [wrap_succ])); grind)
        · rw [ttF hf] at kF1 kF2
          repeat' (conv => whnf
                   first
                     | (with_reducible refine sC (by kernel_rfl) ?_)
                     | ((first | with_reducible refine sB ?_ | with_reducible refine sG0 ?_ | with_reducible refine sG1 ?_ | refine sP (by rfl) ?_); first | refine oT ?_ | refine oF ?_ | (refine Or.inr (Or.inr ⟨fun hsp => ?_, fun hsp => ?_⟩) <;> (try simp only [eqO, Ob.eta, Cl.eta, tt_true, tt_false, decide_eq_true_eq, decide_eq_false_iff_not, beq_iff_eq, beq_eq_false_iff_ne, bne_iff_ne, ne_eq, Bool.not_eq_true, Bool.not_eq_false, Bool.not_eq_eq_eq_not, Bool.not_true, Bool.not_false, Decidable.not_not, Int.not_lt, Int.not_le, gt_iff_lt, ge_iff_le, bne_eq_false_iff_eq, List.length_map] at hsp) <;> try subst hsp))
                     | refine ⟨_, _, kF1, ?_⟩
                     | refine ⟨_, _, kF2, ?_⟩
                     | refine sS (index_true (a := encO o0) (b := encO (objO h w.K w.A w.B w.N)) (y := encO y) hyy (by rfl) (by rfl) (by rfl) (by rfl) (by rfl)) ?_
                     | fail)
          all_goals (conv => whnf)
          all_goals first
            | (refine jh (m2 - 1) (j + 1) _ (by omega) ⟨by (try dsimp only); omega, ?_⟩ (by (conv => whnf); first | done | rfl | (simp (disch := omega) only [wrap_succ])); grind)
      · have hs2 := small_app hsl hsmh cs1
        have kC2 := ok_heap_Check C (h ++ [c1]) hs2 (fun c hx => (nC_app hnh cn1 c hx).objs)
        have kR2 := ok_ref11_Right C (h ++ [c1]) hs2
        have kT2 := ok_ref11_Total C (h ++ [c1]) (by have := hs2.1; omega)
        have kS2 := ok_ref11_Same C (h ++ [c1]) (h ++ [c1]) (small_bigH hs2)
        rw [ttT rfl] at kS2
        have kNone := ok_law11_none C [] 27 27
        rw [none_yesC] at kNone
        rw [tot_app] at kT2
        rcases chk_cases (h ++ [c1]) with ⟨hv2, e2⟩ | ⟨hv2, e2⟩
        · rw [e2] at kC2
          rw [ttT hv2] at kR2
          by_cases hT : IntKind.i64.wrap (totFrom 0 h + c1.size) > 20000
          · repeat' (conv => whnf
                     first
                       | (with_reducible refine sC (by kernel_rfl) ?_)
                       | ((first | with_reducible refine sB ?_ | with_reducible refine sG0 ?_ | with_reducible refine sG1 ?_ | refine sP (by rfl) ?_); first | refine oT ?_ | refine oF ?_ | (refine Or.inr (Or.inr ⟨fun hsp => ?_, fun hsp => ?_⟩) <;> (try simp only [eqO, Ob.eta, Cl.eta, tt_true, tt_false, decide_eq_true_eq, decide_eq_false_iff_not, beq_iff_eq, beq_eq_false_iff_ne, bne_iff_ne, ne_eq, Bool.not_eq_true, Bool.not_eq_false, Bool.not_eq_eq_eq_not, Bool.not_true, Bool.not_false, Decidable.not_not, Int.not_lt, Int.not_le, gt_iff_lt, ge_iff_le, bne_eq_false_iff_eq, List.length_map] at hsp) <;> try subst hsp))
                       | refine ⟨_, _, (by rw [pub_all (f := encC) (l := h ++ [c1])]; (· exact kC2); (· simp)), ?_⟩
                       | refine ⟨_, _, (by rw [pub_all (f := encC) (l := h ++ [c1])]; (· exact kR2); (· simp)), ?_⟩
                       | refine ⟨_, _, ok_heap_New_full C h c1 (by omega) hT, ?_⟩
                       | refine ⟨_, _, (by rw [pub_all (f := encC) (l := h ++ [c1])]; (· exact kT2); (· simp)), ?_⟩
                       | refine ⟨_, _, kNone, ?_⟩
                       | refine sS (append_oM (f := encC) (l := ([] : List Cl)) (x' := h) (by rfl) (by rfl) (by rfl) (by first | exact prows_pv | exact prows_fsl | exact prows_own (by rfl) (by rfl)) (by rfl) (by (try simp only [List.length_map, List.length_append, List.length_take, List.length_drop, List.length_cons, List.length_nil, List.length_replicate, List.length_set, Int.toNat_natCast]); omega)) ?_
                       | refine sS (append_oM (f := encC) (l := h) (x' := [c1]) (by rfl) (by rfl) (by simp) (by first | exact prows_pv | exact prows_fsl | exact prows_own (by rfl) (by rfl)) (by rfl) (by (try simp only [List.length_map, List.length_append, List.length_take, List.length_drop, List.length_cons, List.length_nil, List.length_replicate, List.length_set, Int.toNat_natCast]); omega)) ?_
                       | fail)
            all_goals (conv => whnf)
            all_goals (refine ih (m - 1) (i + 1) _ (by omega) ⟨by (try dsimp only); omega, ?_⟩ (by (conv => whnf); first | done | rfl | (simp (disch := omega) only [wrap_succ])); grind)
          · repeat' (conv => whnf
                     first
                       | (with_reducible refine sC (by kernel_rfl) ?_)
                       | ((first | with_reducible refine sB ?_ | with_reducible refine sG0 ?_ | with_reducible refine sG1 ?_ | refine sP (by rfl) ?_); first | refine oT ?_ | refine oF ?_ | (refine Or.inr (Or.inr ⟨fun hsp => ?_, fun hsp => ?_⟩) <;> (try simp only [eqO, Ob.eta, Cl.eta, tt_true, tt_false, decide_eq_true_eq, decide_eq_false_iff_not, beq_iff_eq, beq_eq_false_iff_ne, bne_iff_ne, ne_eq, Bool.not_eq_true, Bool.not_eq_false, Bool.not_eq_eq_eq_not, Bool.not_true, Bool.not_false, Decidable.not_not, Int.not_lt, Int.not_le, gt_iff_lt, ge_iff_le, bne_eq_false_iff_eq, List.length_map] at hsp) <;> try subst hsp))
                       | refine ⟨_, _, (by rw [pub_all (f := encC) (l := h ++ [c1])]; (· exact kC2); (· simp)), ?_⟩
                       | refine ⟨_, _, (by rw [pub_all (f := encC) (l := h ++ [c1])]; (· exact kR2); (· simp)), ?_⟩
                       | refine ⟨_, _, ok_heap_New C h c1 (by omega) hT, ?_⟩
                       | refine ⟨_, _, (by rw [pub_all (f := encC) (l := h ++ [c1])]; (· exact kT2); (· simp)), ?_⟩
                       | refine ⟨_, _, (by rw [pub_all (f := encC) (l := h ++ [c1])]; (· exact kS2); (· simp)), ?_⟩
                       | refine sS (append_oM (f := encC) (l := ([] : List Cl)) (x' := h) (by rfl) (by rfl) (by rfl) (by first | exact prows_pv | exact prows_fsl | exact prows_own (by rfl) (by rfl)) (by rfl) (by (try simp only [List.length_map, List.length_append, List.length_take, List.length_drop, List.length_cons, List.length_nil, List.length_replicate, List.length_set, Int.toNat_natCast]); omega)) ?_
                       | refine sS (append_oM (f := encC) (l := h) (x' := [c1]) (by rfl) (by rfl) (by simp) (by first | exact prows_pv | exact prows_fsl | exact prows_own (by rfl) (by rfl)) (by rfl) (by (try simp only [List.length_map, List.length_append, List.length_take, List.length_drop, List.length_cons, List.length_nil, List.length_replicate, List.length_set, Int.toNat_natCast]); omega)) ?_
                       | fail)
            all_goals (conv => whnf)
            all_goals (refine ih (m - 1) (i + 1) _ (by omega) ⟨by (try dsimp only); omega, ?_⟩ (by (conv => whnf); first | done | rfl | (simp (disch := omega) only [wrap_succ])); grind)
        · rw [e2] at kC2
          rw [ttF hv2] at kR2
          by_cases hT : IntKind.i64.wrap (totFrom 0 h + c1.size) > 20000
          · repeat' (conv => whnf
                     first
                       | (with_reducible refine sC (by kernel_rfl) ?_)
                       | ((first | with_reducible refine sB ?_ | with_reducible refine sG0 ?_ | with_reducible refine sG1 ?_ | refine sP (by rfl) ?_); first | refine oT ?_ | refine oF ?_ | (refine Or.inr (Or.inr ⟨fun hsp => ?_, fun hsp => ?_⟩) <;> (try simp only [eqO, Ob.eta, Cl.eta, tt_true, tt_false, decide_eq_true_eq, decide_eq_false_iff_not, beq_iff_eq, beq_eq_false_iff_ne, bne_iff_ne, ne_eq, Bool.not_eq_true, Bool.not_eq_false, Bool.not_eq_eq_eq_not, Bool.not_true, Bool.not_false, Decidable.not_not, Int.not_lt, Int.not_le, gt_iff_lt, ge_iff_le, bne_eq_false_iff_eq, List.length_map] at hsp) <;> try subst hsp))
                       | refine ⟨_, _, (by rw [pub_all (f := encC) (l := h ++ [c1])]; (· exact kC2); (· simp)), ?_⟩
                       | refine ⟨_, _, (by rw [pub_all (f := encC) (l := h ++ [c1])]; (· exact kR2); (· simp)), ?_⟩
                       | refine ⟨_, _, ok_heap_New_full C h c1 (by omega) hT, ?_⟩
                       | refine ⟨_, _, (by rw [pub_all (f := encC) (l := h ++ [c1])]; (· exact kT2); (· simp)), ?_⟩
                       | refine ⟨_, _, kNone, ?_⟩
                       | refine sS (append_oM (f := encC) (l := ([] : List Cl)) (x' := h) (by rfl) (by rfl) (by rfl) (by first | exact prows_pv | exact prows_fsl | exact prows_own (by rfl) (by rfl)) (by rfl) (by (try simp only [List.length_map, List.length_append, List.length_take, List.length_drop, List.length_cons, List.length_nil, List.length_replicate, List.length_set, Int.toNat_natCast]); omega)) ?_
                       | refine sS (append_oM (f := encC) (l := h) (x' := [c1]) (by rfl) (by rfl) (by simp) (by first | exact prows_pv | exact prows_fsl | exact prows_own (by rfl) (by rfl)) (by rfl) (by (try simp only [List.length_map, List.length_append, List.length_take, List.length_drop, List.length_cons, List.length_nil, List.length_replicate, List.length_set, Int.toNat_natCast]); omega)) ?_
                       | fail)
            all_goals (conv => whnf)
            all_goals (refine ih (m - 1) (i + 1) _ (by omega) ⟨by (try dsimp only); omega, ?_⟩ (by (conv => whnf); first | done | rfl | (simp (disch := omega) only [wrap_succ])); grind)
          · repeat' (conv => whnf
                     first
                       | (with_reducible refine sC (by kernel_rfl) ?_)
                       | ((first | with_reducible refine sB ?_ | with_reducible refine sG0 ?_ | with_reducible refine sG1 ?_ | refine sP (by rfl) ?_); first | refine oT ?_ | refine oF ?_ | (refine Or.inr (Or.inr ⟨fun hsp => ?_, fun hsp => ?_⟩) <;> (try simp only [eqO, Ob.eta, Cl.eta, tt_true, tt_false, decide_eq_true_eq, decide_eq_false_iff_not, beq_iff_eq, beq_eq_false_iff_ne, bne_iff_ne, ne_eq, Bool.not_eq_true, Bool.not_eq_false, Bool.not_eq_eq_eq_not, Bool.not_true, Bool.not_false, Decidable.not_not, Int.not_lt, Int.not_le, gt_iff_lt, ge_iff_le, bne_eq_false_iff_eq, List.length_map] at hsp) <;> try subst hsp))
                       | refine ⟨_, _, (by rw [pub_all (f := encC) (l := h ++ [c1])]; (· exact kC2); (· simp)), ?_⟩
                       | refine ⟨_, _, (by rw [pub_all (f := encC) (l := h ++ [c1])]; (· exact kR2); (· simp)), ?_⟩
                       | refine ⟨_, _, ok_heap_New C h c1 (by omega) hT, ?_⟩
                       | refine ⟨_, _, (by rw [pub_all (f := encC) (l := h ++ [c1])]; (· exact kT2); (· simp)), ?_⟩
                       | refine ⟨_, _, (by rw [pub_all (f := encC) (l := h ++ [c1])]; (· exact kS2); (· simp)), ?_⟩
                       | refine sS (append_oM (f := encC) (l := ([] : List Cl)) (x' := h) (by rfl) (by rfl) (by rfl) (by first | exact prows_pv | exact prows_fsl | exact prows_own (by rfl) (by rfl)) (by rfl) (by (try simp only [List.length_map, List.length_append, List.length_take, List.length_drop, List.length_cons, List.length_nil, List.length_replicate, List.length_set, Int.toNat_natCast]); omega)) ?_
                       | refine sS (append_oM (f := encC) (l := h) (x' := [c1]) (by rfl) (by rfl) (by simp) (by first | exact prows_pv | exact prows_fsl | exact prows_own (by rfl) (by rfl)) (by rfl) (by (try simp only [List.length_map, List.length_append, List.length_take, List.length_drop, List.length_cons, List.length_nil, List.length_replicate, List.length_set, Int.toNat_natCast]); omega)) ?_
                       | fail)
            all_goals (conv => whnf)
            all_goals (refine ih (m - 1) (i + 1) _ (by omega) ⟨by (try dsimp only); omega, ?_⟩ (by (conv => whnf); first | done | rfl | (simp (disch := omega) only [wrap_succ])); grind)
      )
    · rw [e] at kC
      rw [ttF hv] at kR
      repeat' (conv => whnf
               first
                 | (with_reducible refine sC (by kernel_rfl) ?_)
                 | ((first | with_reducible refine sB ?_ | with_reducible refine sG0 ?_ | with_reducible refine sG1 ?_ | refine sP (by rfl) ?_); first | refine oT ?_ | refine oF ?_ | (refine Or.inr (Or.inr ⟨fun hsp => ?_, fun hsp => ?_⟩) <;> (try simp only [eqO, Ob.eta, Cl.eta, tt_true, tt_false, decide_eq_true_eq, decide_eq_false_iff_not, beq_iff_eq, beq_eq_false_iff_ne, bne_iff_ne, ne_eq, Bool.not_eq_true, Bool.not_eq_false, Bool.not_eq_eq_eq_not, Bool.not_true, Bool.not_false, Decidable.not_not, Int.not_lt, Int.not_le, gt_iff_lt, ge_iff_le, bne_eq_false_iff_eq, List.length_map] at hsp) <;> try subst hsp))
                 | refine ⟨_, _, kC, ?_⟩
                 | refine ⟨_, _, kR, ?_⟩
                 | refine ⟨_, _, ok_heap_Total C h (by omega), ?_⟩
                 | refine ⟨_, _, ok_ref11_Total C h (by omega), ?_⟩
                 | refine ⟨_, _, ok_law11_objs C o0 w h hsmh, ?_⟩
                 | refine ⟨_, _, ok_heap_Size_f C c1.kind c1.bytes c1.items c1.keys c1.vals c1.max c1.at', ?_⟩
                 | refine ⟨_, _, ok_ref11_Size_f C c1.kind c1.bytes c1.items c1.keys c1.vals c1.max c1.at', ?_⟩
                 | refine sS (index_false (a := slC (fewL x0)) (b := slC h0) (y := slC h) hxx (by rfl) (by rfl) (by rfl)) ?_
                 | fail)
      all_goals (conv => whnf)
      all_goals (
      intro Y hY hWY
      obtain ⟨os, hos⟩ : ∃ os, os = [o0, objO h w.K w.A w.B w.N] := ⟨_, rfl⟩
      have hol : os.length = 2 := by rw [hos]; rfl
      have hon : ∀ y ∈ os, y.n < 9223372036854775808 := by
        intro y hy
        rw [hos] at hy
        simp only [List.mem_cons, List.not_mem_nil, or_false] at hy
        rcases hy with rfl | rfl
        · exact ho0
        · exact obj_n h _ _ _ _ w.hA w.hN
      refine loopI hY (fun st (j : Nat) => st.upd [(67, .pv (pI (j : Int)))] []) (fun j k => j + k = os.length ∧ (os.drop j).length = os.length - j) 0 os.length (by (conv => whnf); first | done | rfl) (by simp) ?_
      intro m2 j jh hJ
      rcases at_or os j with ⟨y, hlt2, hy⟩ | hge2
      · have hn := hon y (List.mem_of_getElem? hy)
        have hyy : [encO o0, encO (objO h w.K w.A w.B w.N)][j]? = some (encO y) := by rw [show [encO o0, encO (objO h w.K w.A w.B w.N)] = os.map encO by rw [hos]; rfl, List.getElem?_map, hy]; rfl
        have kF1 := ok_heap_Fits C h y hn
        have kF2 := ok_ref11_Fits C h y
        by_cases hf : fits h y
        · rw [ttT hf] at kF1 kF2
          repeat' (conv => whnf
                   first
                     | (with_reducible refine sC (by kernel_rfl) ?_)
                     | ((first | with_reducible refine sB ?_ | with_reducible refine sG0 ?_ | with_reducible refine sG1 ?_ | refine sP (by rfl) ?_); first | refine oT ?_ | refine oF ?_ | (refine Or.inr (Or.inr ⟨fun hsp => ?_, fun hsp => ?_⟩) <;> (try simp only [eqO, Ob.eta, Cl.eta, tt_true, tt_false, decide_eq_true_eq, decide_eq_false_iff_not, beq_iff_eq, beq_eq_false_iff_ne, bne_iff_ne, ne_eq, Bool.not_eq_true, Bool.not_eq_false, Bool.not_eq_eq_eq_not, Bool.not_true, Bool.not_false, Decidable.not_not, Int.not_lt, Int.not_le, gt_iff_lt, ge_iff_le, bne_eq_false_iff_eq, List.length_map] at hsp) <;> try subst hsp))
                     | refine ⟨_, _, kF1, ?_⟩
                     | refine ⟨_, _, kF2, ?_⟩
                     | refine sS (index_true (a := encO o0) (b := encO (objO h w.K w.A w.B w.N)) (y := encO y) hyy (by rfl) (by rfl) (by rfl) (by rfl) (by rfl)) ?_
                     | fail)
          all_goals (conv => whnf)
          all_goals first
            | (refine jh (m2 - 1) (j + 1) _ (by omega) ⟨by (try dsimp only); omega, ?_⟩ (by (conv => whnf); first | done | rfl | (simp (disch := omega) only [wrap_succ])); grind)
        · rw [ttF hf] at kF1 kF2
          repeat' (conv => whnf
                   first
                     | (with_reducible refine sC (by kernel_rfl) ?_)
                     | ((first | with_reducible refine sB ?_ | with_reducible refine sG0 ?_ | with_reducible refine sG1 ?_ | refine sP (by rfl) ?_); first | refine oT ?_ | refine oF ?_ | (refine Or.inr (Or.inr ⟨fun hsp => ?_, fun hsp => ?_⟩) <;> (try simp only [eqO, Ob.eta, Cl.eta, tt_true, tt_false, decide_eq_true_eq, decide_eq_false_iff_not, beq_iff_eq, beq_eq_false_iff_ne, bne_iff_ne, ne_eq, Bool.not_eq_true, Bool.not_eq_false, Bool.not_eq_eq_eq_not, Bool.not_true, Bool.not_false, Decidable.not_not, Int.not_lt, Int.not_le, gt_iff_lt, ge_iff_le, bne_eq_false_iff_eq, List.length_map] at hsp) <;> try subst hsp))
                     | refine ⟨_, _, kF1, ?_⟩
                     | refine ⟨_, _, kF2, ?_⟩
                     | refine sS (index_true (a := encO o0) (b := encO (objO h w.K w.A w.B w.N)) (y := encO y) hyy (by rfl) (by rfl) (by rfl) (by rfl) (by rfl)) ?_
                     | fail)
          all_goals (conv => whnf)
          all_goals first
            | (refine jh (m2 - 1) (j + 1) _ (by omega) ⟨by (try dsimp only); omega, ?_⟩ (by (conv => whnf); first | done | rfl | (simp (disch := omega) only [wrap_succ])); grind)
      · have hs2 := small_app hsl hsmh cs1
        have kC2 := ok_heap_Check C (h ++ [c1]) hs2 (fun c hx => (nC_app hnh cn1 c hx).objs)
        have kR2 := ok_ref11_Right C (h ++ [c1]) hs2
        have kT2 := ok_ref11_Total C (h ++ [c1]) (by have := hs2.1; omega)
        have kS2 := ok_ref11_Same C (h ++ [c1]) (h ++ [c1]) (small_bigH hs2)
        rw [ttT rfl] at kS2
        have kNone := ok_law11_none C [] 27 27
        rw [none_yesC] at kNone
        rw [tot_app] at kT2
        rcases chk_cases (h ++ [c1]) with ⟨hv2, e2⟩ | ⟨hv2, e2⟩
        · rw [e2] at kC2
          rw [ttT hv2] at kR2
          by_cases hT : IntKind.i64.wrap (totFrom 0 h + c1.size) > 20000
          · repeat' (conv => whnf
                     first
                       | (with_reducible refine sC (by kernel_rfl) ?_)
                       | ((first | with_reducible refine sB ?_ | with_reducible refine sG0 ?_ | with_reducible refine sG1 ?_ | refine sP (by rfl) ?_); first | refine oT ?_ | refine oF ?_ | (refine Or.inr (Or.inr ⟨fun hsp => ?_, fun hsp => ?_⟩) <;> (try simp only [eqO, Ob.eta, Cl.eta, tt_true, tt_false, decide_eq_true_eq, decide_eq_false_iff_not, beq_iff_eq, beq_eq_false_iff_ne, bne_iff_ne, ne_eq, Bool.not_eq_true, Bool.not_eq_false, Bool.not_eq_eq_eq_not, Bool.not_true, Bool.not_false, Decidable.not_not, Int.not_lt, Int.not_le, gt_iff_lt, ge_iff_le, bne_eq_false_iff_eq, List.length_map] at hsp) <;> try subst hsp))
                       | refine ⟨_, _, (by rw [pub_all (f := encC) (l := h ++ [c1])]; (· exact kC2); (· simp)), ?_⟩
                       | refine ⟨_, _, (by rw [pub_all (f := encC) (l := h ++ [c1])]; (· exact kR2); (· simp)), ?_⟩
                       | refine ⟨_, _, ok_heap_New_full C h c1 (by omega) hT, ?_⟩
                       | refine ⟨_, _, (by rw [pub_all (f := encC) (l := h ++ [c1])]; (· exact kT2); (· simp)), ?_⟩
                       | refine ⟨_, _, kNone, ?_⟩
                       | refine sS (append_oM (f := encC) (l := ([] : List Cl)) (x' := h) (by rfl) (by rfl) (by rfl) (by first | exact prows_pv | exact prows_fsl | exact prows_own (by rfl) (by rfl)) (by rfl) (by (try simp only [List.length_map, List.length_append, List.length_take, List.length_drop, List.length_cons, List.length_nil, List.length_replicate, List.length_set, Int.toNat_natCast]); omega)) ?_
                       | refine sS (append_oM (f := encC) (l := h) (x' := [c1]) (by rfl) (by rfl) (by simp) (by first | exact prows_pv | exact prows_fsl | exact prows_own (by rfl) (by rfl)) (by rfl) (by (try simp only [List.length_map, List.length_append, List.length_take, List.length_drop, List.length_cons, List.length_nil, List.length_replicate, List.length_set, Int.toNat_natCast]); omega)) ?_
                       | fail)
            all_goals (conv => whnf)
            all_goals (refine ih (m - 1) (i + 1) _ (by omega) ⟨by (try dsimp only); omega, ?_⟩ (by (conv => whnf); first | done | rfl | (simp (disch := omega) only [wrap_succ])); grind)
          · repeat' (conv => whnf
                     first
                       | (with_reducible refine sC (by kernel_rfl) ?_)
                       | ((first | with_reducible refine sB ?_ | with_reducible refine sG0 ?_ | with_reducible refine sG1 ?_ | refine sP (by rfl) ?_); first | refine oT ?_ | refine oF ?_ | (refine Or.inr (Or.inr ⟨fun hsp => ?_, fun hsp => ?_⟩) <;> (try simp only [eqO, Ob.eta, Cl.eta, tt_true, tt_false, decide_eq_true_eq, decide_eq_false_iff_not, beq_iff_eq, beq_eq_false_iff_ne, bne_iff_ne, ne_eq, Bool.not_eq_true, Bool.not_eq_false, Bool.not_eq_eq_eq_not, Bool.not_true, Bool.not_false, Decidable.not_not, Int.not_lt, Int.not_le, gt_iff_lt, ge_iff_le, bne_eq_false_iff_eq, List.length_map] at hsp) <;> try subst hsp))
                       | refine ⟨_, _, (by rw [pub_all (f := encC) (l := h ++ [c1])]; (· exact kC2); (· simp)), ?_⟩
                       | refine ⟨_, _, (by rw [pub_all (f := encC) (l := h ++ [c1])]; (· exact kR2); (· simp)), ?_⟩
                       | refine ⟨_, _, ok_heap_New C h c1 (by omega) hT, ?_⟩
                       | refine ⟨_, _, (by rw [pub_all (f := encC) (l := h ++ [c1])]; (· exact kT2); (· simp)), ?_⟩
                       | refine ⟨_, _, (by rw [pub_all (f := encC) (l := h ++ [c1])]; (· exact kS2); (· simp)), ?_⟩
                       | refine sS (append_oM (f := encC) (l := ([] : List Cl)) (x' := h) (by rfl) (by rfl) (by rfl) (by first | exact prows_pv | exact prows_fsl | exact prows_own (by rfl) (by rfl)) (by rfl) (by (try simp only [List.length_map, List.length_append, List.length_take, List.length_drop, List.length_cons, List.length_nil, List.length_replicate, List.length_set, Int.toNat_natCast]); omega)) ?_
                       | refine sS (append_oM (f := encC) (l := h) (x' := [c1]) (by rfl) (by rfl) (by simp) (by first | exact prows_pv | exact prows_fsl | exact prows_own (by rfl) (by rfl)) (by rfl) (by (try simp only [List.length_map, List.length_append, List.length_take, List.length_drop, List.length_cons, List.length_nil, List.length_replicate, List.length_set, Int.toNat_natCast]); omega)) ?_
                       | fail)
            all_goals (conv => whnf)
            all_goals (refine ih (m - 1) (i + 1) _ (by omega) ⟨by (try dsimp only); omega, ?_⟩ (by (conv => whnf); first | done | rfl | (simp (disch := omega) only [wrap_succ])); grind)
        · rw [e2] at kC2
          rw [ttF hv2] at kR2
          by_cases hT : IntKind.i64.wrap (totFrom 0 h + c1.size) > 20000
          · repeat' (conv => whnf
                     first
                       | (with_reducible refine sC (by kernel_rfl) ?_)
                       | ((first | with_reducible refine sB ?_ | with_reducible refine sG0 ?_ | with_reducible refine sG1 ?_ | refine sP (by rfl) ?_); first | refine oT ?_ | refine oF ?_ | (refine Or.inr (Or.inr ⟨fun hsp => ?_, fun hsp => ?_⟩) <;> (try simp only [eqO, Ob.eta, Cl.eta, tt_true, tt_false, decide_eq_true_eq, decide_eq_false_iff_not, beq_iff_eq, beq_eq_false_iff_ne, bne_iff_ne, ne_eq, Bool.not_eq_true, Bool.not_eq_false, Bool.not_eq_eq_eq_not, Bool.not_true, Bool.not_false, Decidable.not_not, Int.not_lt, Int.not_le, gt_iff_lt, ge_iff_le, bne_eq_false_iff_eq, List.length_map] at hsp) <;> try subst hsp))
                       | refine ⟨_, _, (by rw [pub_all (f := encC) (l := h ++ [c1])]; (· exact kC2); (· simp)), ?_⟩
                       | refine ⟨_, _, (by rw [pub_all (f := encC) (l := h ++ [c1])]; (· exact kR2); (· simp)), ?_⟩
                       | refine ⟨_, _, ok_heap_New_full C h c1 (by omega) hT, ?_⟩
                       | refine ⟨_, _, (by rw [pub_all (f := encC) (l := h ++ [c1])]; (· exact kT2); (· simp)), ?_⟩
                       | refine ⟨_, _, kNone, ?_⟩
                       | refine sS (append_oM (f := encC) (l := ([] : List Cl)) (x' := h) (by rfl) (by rfl) (by rfl) (by first | exact prows_pv | exact prows_fsl | exact prows_own (by rfl) (by rfl)) (by rfl) (by (try simp only [List.length_map, List.length_append, List.length_take, List.length_drop, List.length_cons, List.length_nil, List.length_replicate, List.length_set, Int.toNat_natCast]); omega)) ?_
                       | refine sS (append_oM (f := encC) (l := h) (x' := [c1]) (by rfl) (by rfl) (by simp) (by first | exact prows_pv | exact prows_fsl | exact prows_own (by rfl) (by rfl)) (by rfl) (by (try simp only [List.length_map, List.length_append, List.length_take, List.length_drop, List.length_cons, List.length_nil, List.length_replicate, List.length_set, Int.toNat_natCast]); omega)) ?_
                       | fail)
            all_goals (conv => whnf)
            all_goals (refine ih (m - 1) (i + 1) _ (by omega) ⟨by (try dsimp only); omega, ?_⟩ (by (conv => whnf); first | done | rfl | (simp (disch := omega) only [wrap_succ])); grind)
          · repeat' (conv => whnf
                     first
                       | (with_reducible refine sC (by kernel_rfl) ?_)
                       | ((first | with_reducible refine sB ?_ | with_reducible refine sG0 ?_ | with_reducible refine sG1 ?_ | refine sP (by rfl) ?_); first | refine oT ?_ | refine oF ?_ | (refine Or.inr (Or.inr ⟨fun hsp => ?_, fun hsp => ?_⟩) <;> (try simp only [eqO, Ob.eta, Cl.eta, tt_true, tt_false, decide_eq_true_eq, decide_eq_false_iff_not, beq_iff_eq, beq_eq_false_iff_ne, bne_iff_ne, ne_eq, Bool.not_eq_true, Bool.not_eq_false, Bool.not_eq_eq_eq_not, Bool.not_true, Bool.not_false, Decidable.not_not, Int.not_lt, Int.not_le, gt_iff_lt, ge_iff_le, bne_eq_false_iff_eq, List.length_map] at hsp) <;> try subst hsp))
                       | refine ⟨_, _, (by rw [pub_all (f := encC) (l := h ++ [c1])]; (· exact kC2); (· simp)), ?_⟩
                       | refine ⟨_, _, (by rw [pub_all (f := encC) (l := h ++ [c1])]; (· exact kR2); (· simp)), ?_⟩
                       | refine ⟨_, _, ok_heap_New C h c1 (by omega) hT, ?_⟩
                       | refine ⟨_, _, (by rw [pub_all (f := encC) (l := h ++ [c1])]; (· exact kT2); (· simp)), ?_⟩
                       | refine ⟨_, _, (by rw [pub_all (f := encC) (l := h ++ [c1])]; (· exact kS2); (· simp)), ?_⟩
                       | refine sS (append_oM (f := encC) (l := ([] : List Cl)) (x' := h) (by rfl) (by rfl) (by rfl) (by first | exact prows_pv | exact prows_fsl | exact prows_own (by rfl) (by rfl)) (by rfl) (by (try simp only [List.length_map, List.length_append, List.length_take, List.length_drop, List.length_cons, List.length_nil, List.length_replicate, List.length_set, Int.toNat_natCast]); omega)) ?_
                       | refine sS (append_oM (f := encC) (l := h) (x' := [c1]) (by rfl) (by rfl) (by simp) (by first | exact prows_pv | exact prows_fsl | exact prows_own (by rfl) (by rfl)) (by rfl) (by (try simp only [List.length_map, List.length_append, List.length_take, List.length_drop, List.length_cons, List.length_nil, List.length_replicate, List.length_set, Int.toNat_natCast]); omega)) ?_
                       | fail)
            all_goals (conv => whnf)
            all_goals (refine ih (m - 1) (i + 1) _ (by omega) ⟨by (try dsimp only); omega, ?_⟩ (by (conv => whnf); first | done | rfl | (simp (disch := omega) only [wrap_succ])); grind)
      )
  · repeat' (conv => whnf
             first
               | (with_reducible refine sC (by kernel_rfl) ?_)
               | ((first | with_reducible refine sB ?_ | with_reducible refine sG0 ?_ | with_reducible refine sG1 ?_ | refine sP (by rfl) ?_); first | refine oT ?_ | refine oF ?_ | (refine Or.inr (Or.inr ⟨fun hsp => ?_, fun hsp => ?_⟩) <;> (try simp only [eqO, Ob.eta, Cl.eta, tt_true, tt_false, decide_eq_true_eq, decide_eq_false_iff_not, beq_iff_eq, beq_eq_false_iff_ne, bne_iff_ne, ne_eq, Bool.not_eq_true, Bool.not_eq_false, Bool.not_eq_eq_eq_not, Bool.not_true, Bool.not_false, Decidable.not_not, Int.not_lt, Int.not_le, gt_iff_lt, ge_iff_le, bne_eq_false_iff_eq, List.length_map] at hsp) <;> try subst hsp))
               | refine ⟨_, _, kh, ?_⟩
               | refine ⟨_, _, kC0, ?_⟩
               | fail)
    all_goals (conv => whnf)
    all_goals (exact PV.le.refl _)
end Go.Ab.Td
