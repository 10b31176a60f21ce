/- HeapReads: the law. Under: nothing. -/
import Derived.Test.YtblkalcialfiaaaDoorTdFw
import Derived.Test.YtblkalcialfiaaaDoorTdHa
namespace Go.Ab.Td
open Go Go.Ab
variable {P : Program}
set_option linter.unusedSimpArgs false
attribute [local irreducible] compat
theorem tt_eqT {p : Prop} (h : p) : tt p = true := tt_true.mpr h
theorem tt_eqF {p : Prop} (h : ¬ p) : tt p = false := tt_false.mpr h
theorem refLen_yes (C : Laid P) (h : List Cl) (o : Ob) (hf : fits h o) (hk : o.kind = 6 ∨ o.kind = 7 ∨ o.kind = 8 ∨ o.kind = 9 ∨ o.kind = 5) : OkC P G n_ref11_Len [.sl 7 (List.map encC h), aO o] [] (.tup [pI (lenO h o), .bool true]) := by
  have k := ok_ref11_Len C h o hf (fun h9 => by
    obtain ⟨h1, -, -⟩ := fits_cell hf (by rw [h9]; decide)
    have := (List.getElem?_eq_some_iff.1 h1).1
    have := right_ref hf.1
    omega)
  rw [tt_eqT hk] at k
  unfold lenO
  rw [show (if o.kind = 9 then ((cellAt h o).keys.length : Int) else if o.kind = 5 then (o.name.length : Int) else o.len) = (if o.kind = 6 ∨ o.kind = 7 ∨ o.kind = 8 then o.len else if o.kind = 9 then ((cellAt h o).keys.length : Int) else if o.kind = 5 then (o.name.length : Int) else 0) by grind]
  exact k
theorem refLen_no (C : Laid P) (h : List Cl) (o : Ob) (hf : fits h o) (hk : ¬ (o.kind = 6 ∨ o.kind = 7 ∨ o.kind = 8 ∨ o.kind = 9 ∨ o.kind = 5)) : ∃ v, OkC P G n_ref11_Len [.sl 7 (List.map encC h), aO o] [] (.tup [pI v, .bool false]) := by
  have k := ok_ref11_Len C h o hf (fun h9 => by omega)
  rw [tt_eqF hk] at k
  exact ⟨_, k⟩
theorem rd_cases (h : List Cl) (y : Ob) : (¬ fits h y ∧ vErr h y [6] = 2 ∧ vErr h y [7, 8] = 2 ∧ vErr h y [6, 7, 8, 9, 5] = 2) ∨ (fits h y ∧ y.kind = 6 ∧ vErr h y [6] = 0 ∧ vErr h y [7, 8] = 22 ∧ vErr h y [6, 7, 8, 9, 5] = 0) ∨
    (fits h y ∧ (y.kind = 7 ∨ y.kind = 8) ∧ vErr h y [6] = 22 ∧ vErr h y [7, 8] = 0 ∧ vErr h y [6, 7, 8, 9, 5] = 0) ∨ (fits h y ∧ (y.kind = 9 ∨ y.kind = 5) ∧ vErr h y [6] = 22 ∧ vErr h y [7, 8] = 22 ∧ vErr h y [6, 7, 8, 9, 5] = 0) ∨
    (fits h y ∧ (y.kind ≠ 5 ∧ y.kind ≠ 6 ∧ y.kind ≠ 7 ∧ y.kind ≠ 8 ∧ y.kind ≠ 9) ∧ vErr h y [6] = 22 ∧ vErr h y [7, 8] = 22 ∧ vErr h y [6, 7, 8, 9, 5] = 22) := by
  unfold vErr
  by_cases hf : fits h y
  · by_cases h6 : y.kind = 6
    · exact .inr (.inl (by simp [hf, h6]))
    by_cases h78 : y.kind = 7 ∨ y.kind = 8
    · exact .inr (.inr (.inl (by rcases h78 with h | h <;> simp [hf, h])))
    by_cases h95 : y.kind = 9 ∨ y.kind = 5
    · exact .inr (.inr (.inr (.inl (by rcases h95 with h | h <;> simp [hf, h]))))
    · exact .inr (.inr (.inr (.inr (by simp only [not_or] at h78 h95; simp [hf, h6, h78, h95]))))
  · simp [hf]
theorem intvl_cases (o : Ob) (off n : Int) : (¬ o.right ∧ intvl o off n = (ob0, 2)) ∨ (o.right ∧ (o.kind ≠ 6 ∧ o.kind ≠ 7 ∧ o.kind ≠ 8) ∧ intvl o off n = (ob0, 22)) ∨
    (o.right ∧ (o.kind = 6 ∨ o.kind = 7 ∨ o.kind = 8) ∧ (off < 0 ∨ n < 0 ∨ off > o.len ∨ n > IntKind.i64.wrap (o.len - off)) ∧ intvl o off n = (ob0, 23)) ∨
    (o.right ∧ (o.kind = 6 ∨ o.kind = 7 ∨ o.kind = 8) ∧ (0 ≤ off ∧ 0 ≤ n ∧ off ≤ o.len ∧ n ≤ IntKind.i64.wrap (o.len - off)) ∧ intvl o off n = ({ o with off := IntKind.i64.wrap (o.off + off), len := n }, 0)) := by
  unfold intvl
  by_cases hr : o.right
  · rw [if_neg (fun h => h hr)]
    by_cases hk : o.kind ≠ 6 ∧ o.kind ≠ 7 ∧ o.kind ≠ 8
    · rw [if_pos hk]; exact .inr (.inl ⟨hr, hk, rfl⟩)
    · rw [if_neg hk]
      by_cases hb : off < 0 ∨ n < 0 ∨ off > o.len ∨ n > IntKind.i64.wrap (o.len - off)
      · rw [if_pos hb]; exact .inr (.inr (.inl ⟨hr, by omega, hb, rfl⟩))
      · rw [if_neg hb]; exact .inr (.inr (.inr ⟨hr, by omega, by omega, rfl⟩))
  · rw [if_pos hr]; exact .inl ⟨hr, rfl⟩
set_option maxHeartbeats 4000000 in
set_option maxRecDepth 100000 in
theorem ok_law11_HeapReads (C : Laid P) (x0 : List Cl) (cells ops dicts : List (List PV)) (hc : ∀ r ∈ cells, WordR r) (o0 : Ob) (ho0 : o0.n < 9223372036854775808) (w : Wd) (off n : Int) : OkC P G n_law11_HeapReads [.sl 7 (List.map encC x0), .agg [.sl 5 cells, .sl 5 ops, .sl 1 dicts], aO o0, .agg w.row, pI off, pI n] [] (.bool true) := by
  refine ok_fn C (k_law11_HeapReads C) rfl ?_
  obtain ⟨h0, ht, kh⟩ := kit_heapT C cells ops dicts hc
  have hs0 := ht.small
  have hw0 := few_small x0
  obtain ⟨hs, hhs⟩ : ∃ hs, hs = [fewL x0, h0] := ⟨_, rfl⟩
  have hlen : hs.length = 2 := by rw [hhs]; rfl
  have hsm : ∀ h ∈ hs, small h := by
    intro h hh
    rw [hhs] at hh
    simp only [List.mem_cons, List.not_mem_nil, or_false] at hh
    rcases hh with rfl | rfl
    · exact hw0
    · exact hs0
  clear hs0 hw0
  repeat' (conv => whnf
           first
             | (with_reducible refine sC (by kernel_rfl) ?_)
             | ((first | with_reducible refine sB ?_ | with_reducible refine sG0 ?_ | with_reducible refine sG1 ?_ | refine sP (by rfl) ?_); first | refine Or.inl ⟨by first | assumption | (simp only [eqO, Ob.eta, Cl.eta, tt_true, tt_false, decide_eq_true_eq, decide_eq_false_iff_not, beq_iff_eq, beq_eq_false_iff_ne, bne_iff_ne, ne_eq, Bool.not_eq_true, Bool.not_eq_false, Bool.not_eq_eq_eq_not, Bool.not_true, Bool.not_false, Decidable.not_not, Int.not_lt, Int.not_le, gt_iff_lt, ge_iff_le, bne_eq_false_iff_eq, List.length_map]; first | done | assumption | omega), ?_⟩ | refine Or.inr (Or.inl ⟨by first | assumption | (simp only [eqO, Ob.eta, Cl.eta, tt_true, tt_false, decide_eq_true_eq, decide_eq_false_iff_not, beq_iff_eq, beq_eq_false_iff_ne, bne_iff_ne, ne_eq, Bool.not_eq_true, Bool.not_eq_false, Bool.not_eq_eq_eq_not, Bool.not_true, Bool.not_false, Decidable.not_not, Int.not_lt, Int.not_le, gt_iff_lt, ge_iff_le, bne_eq_false_iff_eq, List.length_map]; first | done | assumption | omega), ?_⟩) | (refine Or.inr (Or.inr ⟨fun hsp => ?_, fun hsp => ?_⟩) <;> (try simp only [eqO, Ob.eta, Cl.eta, tt_true, tt_false, decide_eq_true_eq, decide_eq_false_iff_not, beq_iff_eq, beq_eq_false_iff_ne, bne_iff_ne, ne_eq, Bool.not_eq_true, Bool.not_eq_false, Bool.not_eq_eq_eq_not, Bool.not_true, Bool.not_false, Decidable.not_not, Int.not_lt, Int.not_le, gt_iff_lt, ge_iff_le, bne_eq_false_iff_eq, List.length_map] at hsp) <;> try subst hsp))
             | refine ⟨_, _, TdW11.ok C, ?_⟩
             | refine ⟨_, _, ok_law11_either C x0 cells ops dicts h0 kh, ?_⟩
             | fail)
  all_goals (conv => whnf)
  intro X hX hWX
  refine loopI hX (fun st (i : Nat) => st.upd [(33, .pv (pI (i : Int)))] []) (fun i k => i + k = hs.length ∧ (hs.drop i).length = hs.length - i) 0 hs.length (by (conv => whnf); first | done | rfl) (by simp) ?_
  intro m i ih hI
  rcases at_or hs i with ⟨h, hlt, hx⟩ | hge
  · have hsmh := hsm h (List.mem_of_getElem? hx)
    have hxx : [slC (fewL x0), slC h0][i]? = some (slC h) := by rw [show [slC (fewL x0), slC h0] = hs.map (fun h => slC h) by rw [hhs]; rfl, List.getElem?_map, hx]; rfl
    repeat' (conv => whnf
             first
               | (with_reducible refine sC (by kernel_rfl) ?_)
               | ((first | with_reducible refine sB ?_ | with_reducible refine sG0 ?_ | with_reducible refine sG1 ?_ | refine sP (by rfl) ?_); first | refine Or.inl ⟨by first | assumption | (simp only [eqO, Ob.eta, Cl.eta, tt_true, tt_false, decide_eq_true_eq, decide_eq_false_iff_not, beq_iff_eq, beq_eq_false_iff_ne, bne_iff_ne, ne_eq, Bool.not_eq_true, Bool.not_eq_false, Bool.not_eq_eq_eq_not, Bool.not_true, Bool.not_false, Decidable.not_not, Int.not_lt, Int.not_le, gt_iff_lt, ge_iff_le, bne_eq_false_iff_eq, List.length_map]; first | done | assumption | omega), ?_⟩ | refine Or.inr (Or.inl ⟨by first | assumption | (simp only [eqO, Ob.eta, Cl.eta, tt_true, tt_false, decide_eq_true_eq, decide_eq_false_iff_not, beq_iff_eq, beq_eq_false_iff_ne, bne_iff_ne, ne_eq, Bool.not_eq_true, Bool.not_eq_false, Bool.not_eq_eq_eq_not, Bool.not_true, Bool.not_false, Decidable.not_not, Int.not_lt, Int.not_le, gt_iff_lt, ge_iff_le, bne_eq_false_iff_eq, List.length_map]; first | done | assumption | omega), ?_⟩) | (refine Or.inr (Or.inr ⟨fun hsp => ?_, fun hsp => ?_⟩) <;> (try simp only [eqO, Ob.eta, Cl.eta, tt_true, tt_false, decide_eq_true_eq, decide_eq_false_iff_not, beq_iff_eq, beq_eq_false_iff_ne, bne_iff_ne, ne_eq, Bool.not_eq_true, Bool.not_eq_false, Bool.not_eq_eq_eq_not, Bool.not_true, Bool.not_false, Decidable.not_not, Int.not_lt, Int.not_le, gt_iff_lt, ge_iff_le, bne_eq_false_iff_eq, List.length_map] at hsp) <;> try subst hsp))
               | refine ⟨_, _, ok_law11_objs C o0 w h hsmh, ?_⟩
               | refine sS (index_false (a := slC (fewL x0)) (b := slC h0) (y := slC h) hxx (by rfl) (by rfl) (by rfl)) ?_
               | fail)
    all_goals (conv => whnf)
    intro Y hY hWY
    obtain ⟨os, hos⟩ : ∃ os, os = [o0, objO h w.K w.A w.B w.N] := ⟨_, rfl⟩
    have hol : os.length = 2 := by rw [hos]; rfl
    have hon : ∀ y ∈ os, y.n < 9223372036854775808 := by
      intro y hy
      rw [hos] at hy
      simp only [List.mem_cons, List.not_mem_nil, or_false] at hy
      rcases hy with rfl | rfl
      · exact ho0
      · exact obj_n h _ _ _ _ w.hA w.hN
    refine loopI hY (fun st (j : Nat) => st.upd [(40, .pv (pI (j : Int)))] []) (fun j k => j + k = os.length ∧ (os.drop j).length = os.length - j) 0 os.length (by (conv => whnf); first | done | rfl) (by simp) ?_
    intro m2 j jh hJ
    rcases at_or os j with ⟨y, hlt2, hy⟩ | hge2
    · have hn := hon y (List.mem_of_getElem? hy)
      have hyy : [encO o0, encO (objO h w.K w.A w.B w.N)][j]? = some (encO y) := by rw [show [encO o0, encO (objO h w.K w.A w.B w.N)] = os.map encO by rw [hos]; rfl, List.getElem?_map, hy]; rfl
      rcases rd_cases h y with ⟨hf, e6, e78, eL⟩ | ⟨hf, hk, e6, e78, eL⟩ | ⟨hf, hk, e6, e78, eL⟩ | ⟨hf, hk, e6, e78, eL⟩ | ⟨hf, hk, e6, e78, eL⟩
      · have kF := ok_ref11_Fits C h y
        rw [tt_eqF hf] at kF
        repeat' (conv => whnf
                 first
                   | (with_reducible refine sC (by kernel_rfl) ?_)
                   | ((first | with_reducible refine sB ?_ | with_reducible refine sG0 ?_ | with_reducible refine sG1 ?_ | refine sP (by rfl) ?_); first | refine Or.inl ⟨by first | assumption | (simp only [eqO, Ob.eta, Cl.eta, tt_true, tt_false, decide_eq_true_eq, decide_eq_false_iff_not, beq_iff_eq, beq_eq_false_iff_ne, bne_iff_ne, ne_eq, Bool.not_eq_true, Bool.not_eq_false, Bool.not_eq_eq_eq_not, Bool.not_true, Bool.not_false, Decidable.not_not, Int.not_lt, Int.not_le, gt_iff_lt, ge_iff_le, bne_eq_false_iff_eq, List.length_map]; first | done | assumption | omega), ?_⟩ | refine Or.inr (Or.inl ⟨by first | assumption | (simp only [eqO, Ob.eta, Cl.eta, tt_true, tt_false, decide_eq_true_eq, decide_eq_false_iff_not, beq_iff_eq, beq_eq_false_iff_ne, bne_iff_ne, ne_eq, Bool.not_eq_true, Bool.not_eq_false, Bool.not_eq_eq_eq_not, Bool.not_true, Bool.not_false, Decidable.not_not, Int.not_lt, Int.not_le, gt_iff_lt, ge_iff_le, bne_eq_false_iff_eq, List.length_map]; first | done | assumption | omega), ?_⟩) | (refine Or.inr (Or.inr ⟨fun hsp => ?_, fun hsp => ?_⟩) <;> (try simp only [eqO, Ob.eta, Cl.eta, tt_true, tt_false, decide_eq_true_eq, decide_eq_false_iff_not, beq_iff_eq, beq_eq_false_iff_ne, bne_iff_ne, ne_eq, Bool.not_eq_true, Bool.not_eq_false, Bool.not_eq_eq_eq_not, Bool.not_true, Bool.not_false, Decidable.not_not, Int.not_lt, Int.not_le, gt_iff_lt, ge_iff_le, bne_eq_false_iff_eq, List.length_map] at hsp) <;> try subst hsp))
                   | refine ⟨_, _, kF, ?_⟩
                   | refine ⟨_, _, (by have k := ok_heap_Bytes_bad C h y hn (by rw [e6]; decide); rw [e6] at k; exact k), ?_⟩
                   | refine ⟨_, _, (by have k := ok_heap_Items_bad C h y hn (by rw [e78]; decide); rw [e78] at k; exact k), ?_⟩
                   | refine ⟨_, _, (by have k := ok_heap_Len_bad C h y hn (by rw [eL]; decide); rw [eL] at k; exact k), ?_⟩
                   | refine sS (index_true (a := encO o0) (b := encO (objO h w.K w.A w.B w.N)) (y := encO y) hyy (by rfl) (by rfl) (by rfl) (by rfl) (by rfl)) ?_
                   | fail)
        all_goals (conv => whnf)
        all_goals first
          | (refine jh (m2 - 1) (j + 1) _ (by omega) ⟨by (try dsimp only); omega, ?_⟩ (by (conv => whnf); first | done | rfl | (simp (disch := omega) only [wrap_succ])); grind)
      · have kF := ok_ref11_Fits C h y
        rw [tt_eqT hf] at kF
        obtain ⟨⟨hr1, hr2⟩, ⟨hf1, hf2, hf3⟩, hkk, hcc⟩ := view_facts e6
        obtain ⟨hc3, hc4, hc5⟩ := hcc.resolve_left (by rw [hk]; decide)
        have hc6 : y.off + y.len ≤ (cellAt h y).bytes.length := by simpa [hk, Cl.length, hc4, cellK] using hc5
        repeat' (conv => whnf
                 first
                   | (with_reducible refine sC (by kernel_rfl) ?_)
                   | ((first | with_reducible refine sB ?_ | with_reducible refine sG0 ?_ | with_reducible refine sG1 ?_ | refine sP (by rfl) ?_); first | refine Or.inl ⟨by first | assumption | (simp only [eqO, Ob.eta, Cl.eta, tt_true, tt_false, decide_eq_true_eq, decide_eq_false_iff_not, beq_iff_eq, beq_eq_false_iff_ne, bne_iff_ne, ne_eq, Bool.not_eq_true, Bool.not_eq_false, Bool.not_eq_eq_eq_not, Bool.not_true, Bool.not_false, Decidable.not_not, Int.not_lt, Int.not_le, gt_iff_lt, ge_iff_le, bne_eq_false_iff_eq, List.length_map]; first | done | assumption | omega), ?_⟩ | refine Or.inr (Or.inl ⟨by first | assumption | (simp only [eqO, Ob.eta, Cl.eta, tt_true, tt_false, decide_eq_true_eq, decide_eq_false_iff_not, beq_iff_eq, beq_eq_false_iff_ne, bne_iff_ne, ne_eq, Bool.not_eq_true, Bool.not_eq_false, Bool.not_eq_eq_eq_not, Bool.not_true, Bool.not_false, Decidable.not_not, Int.not_lt, Int.not_le, gt_iff_lt, ge_iff_le, bne_eq_false_iff_eq, List.length_map]; first | done | assumption | omega), ?_⟩) | (refine Or.inr (Or.inr ⟨fun hsp => ?_, fun hsp => ?_⟩) <;> (try simp only [eqO, Ob.eta, Cl.eta, tt_true, tt_false, decide_eq_true_eq, decide_eq_false_iff_not, beq_iff_eq, beq_eq_false_iff_ne, bne_iff_ne, ne_eq, Bool.not_eq_true, Bool.not_eq_false, Bool.not_eq_eq_eq_not, Bool.not_true, Bool.not_false, Decidable.not_not, Int.not_lt, Int.not_le, gt_iff_lt, ge_iff_le, bne_eq_false_iff_eq, List.length_map] at hsp) <;> try subst hsp))
                   | refine ⟨_, _, kF, ?_⟩
                   | refine ⟨_, _, ok_heap_Bytes C h y hn e6, ?_⟩
                   | refine ⟨_, _, (by have k := ok_heap_Items_bad C h y hn (by rw [e78]; decide); rw [e78] at k; exact k), ?_⟩
                   | refine ⟨_, _, ok_heap_Len C h y hn eL, ?_⟩
                   | refine ⟨_, _, refLen_yes C h y hf (by omega), ?_⟩
                   | refine ⟨_, _, ok_ref11_Bytes C h y hr1 (by omega) hf1 hf2 hf3 hc6, ?_⟩
                   | refine sS (index_true (a := encO o0) (b := encO (objO h w.K w.A w.B w.N)) (y := encO y) hyy (by rfl) (by rfl) (by rfl) (by rfl) (by rfl)) ?_
                   | fail)
        all_goals (conv => whnf)
        all_goals first
          | (refine jh (m2 - 1) (j + 1) _ (by omega) ⟨by (try dsimp only); omega, ?_⟩ (by (conv => whnf); first | done | rfl | (simp (disch := omega) only [wrap_succ])); grind)
      · have kF := ok_ref11_Fits C h y
        rw [tt_eqT hf] at kF
        obtain ⟨⟨hr1, hr2⟩, ⟨hf1, hf2, hf3⟩, hc6⟩ := vfacts78 e78
        have hil : (subI h y).length < 2 ^ 62 := by unfold subI; rw [List.length_drop, List.length_take]; omega
        have ks := ok_ref11_sameObjs C (subI h y) (subI h y) hil
        rw [tt_eqT rfl] at ks
        repeat' (conv => whnf
                 first
                   | (with_reducible refine sC (by kernel_rfl) ?_)
                   | ((first | with_reducible refine sB ?_ | with_reducible refine sG0 ?_ | with_reducible refine sG1 ?_ | refine sP (by rfl) ?_); first | refine Or.inl ⟨by first | assumption | (simp only [eqO, Ob.eta, Cl.eta, tt_true, tt_false, decide_eq_true_eq, decide_eq_false_iff_not, beq_iff_eq, beq_eq_false_iff_ne, bne_iff_ne, ne_eq, Bool.not_eq_true, Bool.not_eq_false, Bool.not_eq_eq_eq_not, Bool.not_true, Bool.not_false, Decidable.not_not, Int.not_lt, Int.not_le, gt_iff_lt, ge_iff_le, bne_eq_false_iff_eq, List.length_map]; first | done | assumption | omega), ?_⟩ | refine Or.inr (Or.inl ⟨by first | assumption | (simp only [eqO, Ob.eta, Cl.eta, tt_true, tt_false, decide_eq_true_eq, decide_eq_false_iff_not, beq_iff_eq, beq_eq_false_iff_ne, bne_iff_ne, ne_eq, Bool.not_eq_true, Bool.not_eq_false, Bool.not_eq_eq_eq_not, Bool.not_true, Bool.not_false, Decidable.not_not, Int.not_lt, Int.not_le, gt_iff_lt, ge_iff_le, bne_eq_false_iff_eq, List.length_map]; first | done | assumption | omega), ?_⟩) | (refine Or.inr (Or.inr ⟨fun hsp => ?_, fun hsp => ?_⟩) <;> (try simp only [eqO, Ob.eta, Cl.eta, tt_true, tt_false, decide_eq_true_eq, decide_eq_false_iff_not, beq_iff_eq, beq_eq_false_iff_ne, bne_iff_ne, ne_eq, Bool.not_eq_true, Bool.not_eq_false, Bool.not_eq_eq_eq_not, Bool.not_true, Bool.not_false, Decidable.not_not, Int.not_lt, Int.not_le, gt_iff_lt, ge_iff_le, bne_eq_false_iff_eq, List.length_map] at hsp) <;> try subst hsp))
                   | refine ⟨_, _, kF, ?_⟩
                   | refine ⟨_, _, (by have k := ok_heap_Bytes_bad C h y hn (by rw [e6]; decide); rw [e6] at k; exact k), ?_⟩
                   | refine ⟨_, _, ok_heap_Items C h y hn e78, ?_⟩
                   | refine ⟨_, _, ok_heap_Len C h y hn eL, ?_⟩
                   | refine ⟨_, _, refLen_yes C h y hf (by omega), ?_⟩
                   | refine ⟨_, _, ok_ref11_Items C h y hr1 hr2 hf1 hf2 hf3 hc6, ?_⟩
                   | refine ⟨_, _, ok_ref11_SameObjs C (subI h y) (subI h y) true ks, ?_⟩
                   | refine sS (index_true (a := encO o0) (b := encO (objO h w.K w.A w.B w.N)) (y := encO y) hyy (by rfl) (by rfl) (by rfl) (by rfl) (by rfl)) ?_
                   | fail)
        all_goals (conv => whnf)
        all_goals first
          | (refine jh (m2 - 1) (j + 1) _ (by omega) ⟨by (try dsimp only); omega, ?_⟩ (by (conv => whnf); first | done | rfl | (simp (disch := omega) only [wrap_succ])); grind)
      · have kF := ok_ref11_Fits C h y
        rw [tt_eqT hf] at kF
        repeat' (conv => whnf
                 first
                   | (with_reducible refine sC (by kernel_rfl) ?_)
                   | ((first | with_reducible refine sB ?_ | with_reducible refine sG0 ?_ | with_reducible refine sG1 ?_ | refine sP (by rfl) ?_); first | refine Or.inl ⟨by first | assumption | (simp only [eqO, Ob.eta, Cl.eta, tt_true, tt_false, decide_eq_true_eq, decide_eq_false_iff_not, beq_iff_eq, beq_eq_false_iff_ne, bne_iff_ne, ne_eq, Bool.not_eq_true, Bool.not_eq_false, Bool.not_eq_eq_eq_not, Bool.not_true, Bool.not_false, Decidable.not_not, Int.not_lt, Int.not_le, gt_iff_lt, ge_iff_le, bne_eq_false_iff_eq, List.length_map]; first | done | assumption | omega), ?_⟩ | refine Or.inr (Or.inl ⟨by first | assumption | (simp only [eqO, Ob.eta, Cl.eta, tt_true, tt_false, decide_eq_true_eq, decide_eq_false_iff_not, beq_iff_eq, beq_eq_false_iff_ne, bne_iff_ne, ne_eq, Bool.not_eq_true, Bool.not_eq_false, Bool.not_eq_eq_eq_not, Bool.not_true, Bool.not_false, Decidable.not_not, Int.not_lt, Int.not_le, gt_iff_lt, ge_iff_le, bne_eq_false_iff_eq, List.length_map]; first | done | assumption | omega), ?_⟩) | (refine Or.inr (Or.inr ⟨fun hsp => ?_, fun hsp => ?_⟩) <;> (try simp only [eqO, Ob.eta, Cl.eta, tt_true, tt_false, decide_eq_true_eq, decide_eq_false_iff_not, beq_iff_eq, beq_eq_false_iff_ne, bne_iff_ne, ne_eq, Bool.not_eq_true, Bool.not_eq_false, Bool.not_eq_eq_eq_not, Bool.not_true, Bool.not_false, Decidable.not_not, Int.not_lt, Int.not_le, gt_iff_lt, ge_iff_le, bne_eq_false_iff_eq, List.length_map] at hsp) <;> try subst hsp))
                   | refine ⟨_, _, kF, ?_⟩
                   | refine ⟨_, _, (by have k := ok_heap_Bytes_bad C h y hn (by rw [e6]; decide); rw [e6] at k; exact k), ?_⟩
                   | refine ⟨_, _, (by have k := ok_heap_Items_bad C h y hn (by rw [e78]; decide); rw [e78] at k; exact k), ?_⟩
                   | refine ⟨_, _, ok_heap_Len C h y hn eL, ?_⟩
                   | refine ⟨_, _, refLen_yes C h y hf (by omega), ?_⟩
                   | refine sS (index_true (a := encO o0) (b := encO (objO h w.K w.A w.B w.N)) (y := encO y) hyy (by rfl) (by rfl) (by rfl) (by rfl) (by rfl)) ?_
                   | fail)
        all_goals (conv => whnf)
        all_goals first
          | (refine jh (m2 - 1) (j + 1) _ (by omega) ⟨by (try dsimp only); omega, ?_⟩ (by (conv => whnf); first | done | rfl | (simp (disch := omega) only [wrap_succ])); grind)
      · have kF := ok_ref11_Fits C h y
        rw [tt_eqT hf] at kF
        obtain ⟨v, kv⟩ := refLen_no C h y hf (by omega)
        repeat' (conv => whnf
                 first
                   | (with_reducible refine sC (by kernel_rfl) ?_)
                   | ((first | with_reducible refine sB ?_ | with_reducible refine sG0 ?_ | with_reducible refine sG1 ?_ | refine sP (by rfl) ?_); first | refine Or.inl ⟨by first | assumption | (simp only [eqO, Ob.eta, Cl.eta, tt_true, tt_false, decide_eq_true_eq, decide_eq_false_iff_not, beq_iff_eq, beq_eq_false_iff_ne, bne_iff_ne, ne_eq, Bool.not_eq_true, Bool.not_eq_false, Bool.not_eq_eq_eq_not, Bool.not_true, Bool.not_false, Decidable.not_not, Int.not_lt, Int.not_le, gt_iff_lt, ge_iff_le, bne_eq_false_iff_eq, List.length_map]; first | done | assumption | omega), ?_⟩ | refine Or.inr (Or.inl ⟨by first | assumption | (simp only [eqO, Ob.eta, Cl.eta, tt_true, tt_false, decide_eq_true_eq, decide_eq_false_iff_not, beq_iff_eq, beq_eq_false_iff_ne, bne_iff_ne, ne_eq, Bool.not_eq_true, Bool.not_eq_false, Bool.not_eq_eq_eq_not, Bool.not_true, Bool.not_false, Decidable.not_not, Int.not_lt, Int.not_le, gt_iff_lt, ge_iff_le, bne_eq_false_iff_eq, List.length_map]; first | done | assumption | omega), ?_⟩) | (refine Or.inr (Or.inr ⟨fun hsp => ?_, fun hsp => ?_⟩) <;> (try simp only [eqO, Ob.eta, Cl.eta, tt_true, tt_false, decide_eq_true_eq, decide_eq_false_iff_not, beq_iff_eq, beq_eq_false_iff_ne, bne_iff_ne, ne_eq, Bool.not_eq_true, Bool.not_eq_false, Bool.not_eq_eq_eq_not, Bool.not_true, Bool.not_false, Decidable.not_not, Int.not_lt, Int.not_le, gt_iff_lt, ge_iff_le, bne_eq_false_iff_eq, List.length_map] at hsp) <;> try subst hsp))
                   | refine ⟨_, _, kF, ?_⟩
                   | refine ⟨_, _, (by have k := ok_heap_Bytes_bad C h y hn (by rw [e6]; decide); rw [e6] at k; exact k), ?_⟩
                   | refine ⟨_, _, (by have k := ok_heap_Items_bad C h y hn (by rw [e78]; decide); rw [e78] at k; exact k), ?_⟩
                   | refine ⟨_, _, (by have k := ok_heap_Len_bad C h y hn (by rw [eL]; decide); rw [eL] at k; exact k), ?_⟩
                   | refine ⟨_, _, kv, ?_⟩
                   | refine sS (index_true (a := encO o0) (b := encO (objO h w.K w.A w.B w.N)) (y := encO y) hyy (by rfl) (by rfl) (by rfl) (by rfl) (by rfl)) ?_
                   | fail)
        all_goals (conv => whnf)
        all_goals first
          | (refine jh (m2 - 1) (j + 1) _ (by omega) ⟨by (try dsimp only); omega, ?_⟩ (by (conv => whnf); first | done | rfl | (simp (disch := omega) only [wrap_succ])); grind)
    · repeat' (conv => whnf
               first
                 | (with_reducible refine sC (by kernel_rfl) ?_)
                 | ((first | with_reducible refine sB ?_ | with_reducible refine sG0 ?_ | with_reducible refine sG1 ?_ | refine sP (by rfl) ?_); first | refine Or.inl ⟨by first | assumption | (simp only [eqO, Ob.eta, Cl.eta, tt_true, tt_false, decide_eq_true_eq, decide_eq_false_iff_not, beq_iff_eq, beq_eq_false_iff_ne, bne_iff_ne, ne_eq, Bool.not_eq_true, Bool.not_eq_false, Bool.not_eq_eq_eq_not, Bool.not_true, Bool.not_false, Decidable.not_not, Int.not_lt, Int.not_le, gt_iff_lt, ge_iff_le, bne_eq_false_iff_eq, List.length_map]; first | done | assumption | omega), ?_⟩ | refine Or.inr (Or.inl ⟨by first | assumption | (simp only [eqO, Ob.eta, Cl.eta, tt_true, tt_false, decide_eq_true_eq, decide_eq_false_iff_not, beq_iff_eq, beq_eq_false_iff_ne, bne_iff_ne, ne_eq, Bool.not_eq_true, Bool.not_eq_false, Bool.not_eq_eq_eq_not, Bool.not_true, Bool.not_false, Decidable.not_not, Int.not_lt, Int.not_le, gt_iff_lt, ge_iff_le, bne_eq_false_iff_eq, List.length_map]; first | done | assumption | omega), ?_⟩) | (refine Or.inr (Or.inr ⟨fun hsp => ?_, fun hsp => ?_⟩) <;> (try simp only [eqO, Ob.eta, Cl.eta, tt_true, tt_false, decide_eq_true_eq, decide_eq_false_iff_not, beq_iff_eq, beq_eq_false_iff_ne, bne_iff_ne, ne_eq, Bool.not_eq_true, Bool.not_eq_false, Bool.not_eq_eq_eq_not, Bool.not_true, Bool.not_false, Decidable.not_not, Int.not_lt, Int.not_le, gt_iff_lt, ge_iff_le, bne_eq_false_iff_eq, List.length_map] at hsp) <;> try subst hsp))
                 | fail)
      all_goals (conv => whnf)
      all_goals first
        | (refine ih (m - 1) (i + 1) _ (by omega) ⟨by (try dsimp only); omega, ?_⟩ (by (conv => whnf); first | done | rfl | (simp (disch := omega) only [wrap_succ])); grind)
  
  · have kI := ok_heap_Interval C o0 off n ho0
    rcases intvl_cases o0 off n with ⟨hr, hi⟩ | ⟨hr, hk, hi⟩ | ⟨hr, hk, hb, hi⟩ | ⟨hr, hk, hb, hi⟩
    all_goals rw [hi] at kI
    all_goals dsimp only at kI
    · repeat' (conv => whnf
               first
                 | (with_reducible refine sC (by kernel_rfl) ?_)
                 | ((first | with_reducible refine sB ?_ | with_reducible refine sG0 ?_ | with_reducible refine sG1 ?_ | refine sP (by rfl) ?_); first | refine Or.inl ⟨by first | assumption | (simp only [eqO, Ob.eta, Cl.eta, tt_true, tt_false, decide_eq_true_eq, decide_eq_false_iff_not, beq_iff_eq, beq_eq_false_iff_ne, bne_iff_ne, ne_eq, Bool.not_eq_true, Bool.not_eq_false, Bool.not_eq_eq_eq_not, Bool.not_true, Bool.not_false, Decidable.not_not, Int.not_lt, Int.not_le, gt_iff_lt, ge_iff_le, bne_eq_false_iff_eq, List.length_map]; first | done | assumption | omega), ?_⟩ | refine Or.inr (Or.inl ⟨by first | assumption | (simp only [eqO, Ob.eta, Cl.eta, tt_true, tt_false, decide_eq_true_eq, decide_eq_false_iff_not, beq_iff_eq, beq_eq_false_iff_ne, bne_iff_ne, ne_eq, Bool.not_eq_true, Bool.not_eq_false, Bool.not_eq_eq_eq_not, Bool.not_true, Bool.not_false, Decidable.not_not, Int.not_lt, Int.not_le, gt_iff_lt, ge_iff_le, bne_eq_false_iff_eq, List.length_map]; first | done | assumption | omega), ?_⟩) | (refine Or.inr (Or.inr ⟨fun hsp => ?_, fun hsp => ?_⟩) <;> (try simp only [eqO, Ob.eta, Cl.eta, tt_true, tt_false, decide_eq_true_eq, decide_eq_false_iff_not, beq_iff_eq, beq_eq_false_iff_ne, bne_iff_ne, ne_eq, Bool.not_eq_true, Bool.not_eq_false, Bool.not_eq_eq_eq_not, Bool.not_true, Bool.not_false, Decidable.not_not, Int.not_lt, Int.not_le, gt_iff_lt, ge_iff_le, bne_eq_false_iff_eq, List.length_map] at hsp) <;> try subst hsp))
                 | refine ⟨_, _, kI, ?_⟩
                 | refine ⟨_, _, ok_ref10_Right C o0, ?_⟩
                 | fail)
      all_goals (conv => whnf)
      all_goals (first | exact PV.le.refl _ | (refine le_of_eq ?_; congr 1; simp only [eqO, Ob.eta]; exact tt_eqT rfl))
    · repeat' (conv => whnf
               first
                 | (with_reducible refine sC (by kernel_rfl) ?_)
                 | ((first | with_reducible refine sB ?_ | with_reducible refine sG0 ?_ | with_reducible refine sG1 ?_ | refine sP (by rfl) ?_); first | refine Or.inl ⟨by first | assumption | (simp only [eqO, Ob.eta, Cl.eta, tt_true, tt_false, decide_eq_true_eq, decide_eq_false_iff_not, beq_iff_eq, beq_eq_false_iff_ne, bne_iff_ne, ne_eq, Bool.not_eq_true, Bool.not_eq_false, Bool.not_eq_eq_eq_not, Bool.not_true, Bool.not_false, Decidable.not_not, Int.not_lt, Int.not_le, gt_iff_lt, ge_iff_le, bne_eq_false_iff_eq, List.length_map]; first | done | assumption | omega), ?_⟩ | refine Or.inr (Or.inl ⟨by first | assumption | (simp only [eqO, Ob.eta, Cl.eta, tt_true, tt_false, decide_eq_true_eq, decide_eq_false_iff_not, beq_iff_eq, beq_eq_false_iff_ne, bne_iff_ne, ne_eq, Bool.not_eq_true, Bool.not_eq_false, Bool.not_eq_eq_eq_not, Bool.not_true, Bool.not_false, Decidable.not_not, Int.not_lt, Int.not_le, gt_iff_lt, ge_iff_le, bne_eq_false_iff_eq, List.length_map]; first | done | assumption | omega), ?_⟩) | (refine Or.inr (Or.inr ⟨fun hsp => ?_, fun hsp => ?_⟩) <;> (try simp only [eqO, Ob.eta, Cl.eta, tt_true, tt_false, decide_eq_true_eq, decide_eq_false_iff_not, beq_iff_eq, beq_eq_false_iff_ne, bne_iff_ne, ne_eq, Bool.not_eq_true, Bool.not_eq_false, Bool.not_eq_eq_eq_not, Bool.not_true, Bool.not_false, Decidable.not_not, Int.not_lt, Int.not_le, gt_iff_lt, ge_iff_le, bne_eq_false_iff_eq, List.length_map] at hsp) <;> try subst hsp))
                 | refine ⟨_, _, kI, ?_⟩
                 | refine ⟨_, _, ok_ref10_Right C o0, ?_⟩
                 | fail)
      all_goals (conv => whnf)
      all_goals (first | exact PV.le.refl _ | (refine le_of_eq ?_; congr 1; simp only [eqO, Ob.eta]; exact tt_eqT rfl))
    · repeat' (conv => whnf
               first
                 | (with_reducible refine sC (by kernel_rfl) ?_)
                 | ((first | with_reducible refine sB ?_ | with_reducible refine sG0 ?_ | with_reducible refine sG1 ?_ | refine sP (by rfl) ?_); first | refine Or.inl ⟨by first | assumption | (simp only [eqO, Ob.eta, Cl.eta, tt_true, tt_false, decide_eq_true_eq, decide_eq_false_iff_not, beq_iff_eq, beq_eq_false_iff_ne, bne_iff_ne, ne_eq, Bool.not_eq_true, Bool.not_eq_false, Bool.not_eq_eq_eq_not, Bool.not_true, Bool.not_false, Decidable.not_not, Int.not_lt, Int.not_le, gt_iff_lt, ge_iff_le, bne_eq_false_iff_eq, List.length_map]; first | done | assumption | omega), ?_⟩ | refine Or.inr (Or.inl ⟨by first | assumption | (simp only [eqO, Ob.eta, Cl.eta, tt_true, tt_false, decide_eq_true_eq, decide_eq_false_iff_not, beq_iff_eq, beq_eq_false_iff_ne, bne_iff_ne, ne_eq, Bool.not_eq_true, Bool.not_eq_false, Bool.not_eq_eq_eq_not, Bool.not_true, Bool.not_false, Decidable.not_not, Int.not_lt, Int.not_le, gt_iff_lt, ge_iff_le, bne_eq_false_iff_eq, List.length_map]; first | done | assumption | omega), ?_⟩) | (refine Or.inr (Or.inr ⟨fun hsp => ?_, fun hsp => ?_⟩) <;> (try simp only [eqO, Ob.eta, Cl.eta, tt_true, tt_false, decide_eq_true_eq, decide_eq_false_iff_not, beq_iff_eq, beq_eq_false_iff_ne, bne_iff_ne, ne_eq, Bool.not_eq_true, Bool.not_eq_false, Bool.not_eq_eq_eq_not, Bool.not_true, Bool.not_false, Decidable.not_not, Int.not_lt, Int.not_le, gt_iff_lt, ge_iff_le, bne_eq_false_iff_eq, List.length_map] at hsp) <;> try subst hsp))
                 | refine ⟨_, _, kI, ?_⟩
                 | refine ⟨_, _, ok_ref10_Right C o0, ?_⟩
                 | fail)
      all_goals (conv => whnf)
      all_goals (first | exact PV.le.refl _ | (refine le_of_eq ?_; congr 1; simp only [eqO, Ob.eta]; exact tt_eqT rfl))
    · repeat' (conv => whnf
               first
                 | (with_reducible refine sC (by kernel_rfl) ?_)
                 | ((first | with_reducible refine sB ?_ | with_reducible refine sG0 ?_ | with_reducible refine sG1 ?_ | refine sP (by rfl) ?_); first | refine Or.inl ⟨by first | assumption | (simp only [eqO, Ob.eta, Cl.eta, tt_true, tt_false, decide_eq_true_eq, decide_eq_false_iff_not, beq_iff_eq, beq_eq_false_iff_ne, bne_iff_ne, ne_eq, Bool.not_eq_true, Bool.not_eq_false, Bool.not_eq_eq_eq_not, Bool.not_true, Bool.not_false, Decidable.not_not, Int.not_lt, Int.not_le, gt_iff_lt, ge_iff_le, bne_eq_false_iff_eq, List.length_map]; first | done | assumption | omega), ?_⟩ | refine Or.inr (Or.inl ⟨by first | assumption | (simp only [eqO, Ob.eta, Cl.eta, tt_true, tt_false, decide_eq_true_eq, decide_eq_false_iff_not, beq_iff_eq, beq_eq_false_iff_ne, bne_iff_ne, ne_eq, Bool.not_eq_true, Bool.not_eq_false, Bool.not_eq_eq_eq_not, Bool.not_true, Bool.not_false, Decidable.not_not, Int.not_lt, Int.not_le, gt_iff_lt, ge_iff_le, bne_eq_false_iff_eq, List.length_map]; first | done | assumption | omega), ?_⟩) | (refine Or.inr (Or.inr ⟨fun hsp => ?_, fun hsp => ?_⟩) <;> (try simp only [eqO, Ob.eta, Cl.eta, tt_true, tt_false, decide_eq_true_eq, decide_eq_false_iff_not, beq_iff_eq, beq_eq_false_iff_ne, bne_iff_ne, ne_eq, Bool.not_eq_true, Bool.not_eq_false, Bool.not_eq_eq_eq_not, Bool.not_true, Bool.not_false, Decidable.not_not, Int.not_lt, Int.not_le, gt_iff_lt, ge_iff_le, bne_eq_false_iff_eq, List.length_map] at hsp) <;> try subst hsp))
                 | refine ⟨_, _, kI, ?_⟩
                 | refine ⟨_, _, ok_ref10_Right C o0, ?_⟩
                 | fail)
      all_goals (conv => whnf)
      all_goals (first | exact PV.le.refl _ | (refine le_of_eq ?_; congr 1; simp only [eqO, Ob.eta]; exact tt_eqT rfl))
end Go.Ab.Td
