/- HeapKeys: the law. Under: nothing. -/
import Derived.Test.YtblkalcialfiaaaDoorTdPu
import Derived.Test.YtblkalcialfiaaaDoorTdRm
import Derived.Test.YtblkalcialfiaaaDoorTdSm
import Derived.Test.YtblkalcialfiaaaDoorTdLr
import Derived.Test.YtblkalcialfiaaaDoorTdAr2
namespace Go.Ab.Td
open Go Go.Ab
variable {P : Program}
set_option linter.unusedSimpArgs false
attribute [local irreducible] compat
theorem none_yesK {e : Int} : (decide (([] : List Cl) = []) && decide (e = e)) = true := by simp
theorem key_bad {h : List Cl} {y : Ob} (hf : ¬ fits h y) : hKey h y = (ob0, 2) := by unfold hKey; rw [if_pos hf]
theorem v9_cases {h : List Cl} {y : Ob} (hf : fits h y) : (y.kind = 9 ∧ vErr h y [9] = 0) ∨ (y.kind ≠ 9 ∧ vErr h y [9] = 22) := by
  unfold vErr
  by_cases h9 : y.kind = 9
  · exact .inl ⟨h9, by simp [hf, h9]⟩
  · exact .inr ⟨h9, by simp [hf, h9]⟩
theorem rem_big {c : Cl} (hc : bigC c) (i : Nat) : bigC (remAt c i) := by
  obtain ⟨h1, h2, h3⟩ := hc
  have e1 := List.length_eraseIdx_le c.keys i
  have e2 := List.length_eraseIdx_le c.vals i
  exact ⟨by unfold remAt; dsimp only; omega, by unfold remAt; dsimp only; omega, h3⟩
theorem put_big {c t : Cl} {k v : Ob} (hc : c.small) (hp : putKV c k v = some t) : bigC t := by
  obtain ⟨h1, h2, h3, -⟩ := hc
  unfold putKV at hp
  split at hp
  · cases hp
    exact ⟨small_lt h1, by dsimp only; rw [List.length_set]; exact small_lt h2, small_lt h3⟩
  · split at hp
    · cases hp
    · cases hp
      exact ⟨by dsimp only; rw [List.length_append]; simp; omega, by dsimp only; rw [List.length_append]; simp; omega, small_lt h3⟩
theorem idx_cases (c : Cl) (k : Ob) : (idxFrom k 0 c.keys < 0 ∨ (c.vals.length : Int) ≤ idxFrom k 0 c.keys) ∨ ∃ i : Nat, idxFrom k 0 c.keys = (i : Int) ∧ i < c.keys.length ∧ i < c.vals.length := by
  by_cases h0 : idxFrom k 0 c.keys < 0
  · exact .inl (.inl h0)
  · obtain ⟨i, hi, hik⟩ := idx_ge (by omega : 0 ≤ idxFrom k 0 c.keys)
    by_cases hv : (c.vals.length : Int) ≤ idxFrom k 0 c.keys
    · exact .inl (.inr hv)
    · exact .inr ⟨i, hi, hik, by omega⟩
theorem put_some {c : Cl} {k v : Ob} {i : Nat} (hi : idxFrom k 0 c.keys = (i : Int)) (hv : i < c.vals.length) : ∃ t, putKV c k v = some t := by
  unfold putKV
  rw [if_pos (by omega)]
  exact ⟨_, rfl⟩


set_option maxHeartbeats 8000000 in
set_option maxRecDepth 100000 in
theorem ok_law11_HeapKeys (C : Laid P) (x0 : List Cl) (cells ops dicts : List (List PV)) (hc : ∀ r ∈ cells, WordR r) (o0 : Ob) (ho0 : o0.n < 9223372036854775808) (w1 w2 : Wd) (vl : Ob) : OkC P G n_law11_HeapKeys [.sl 7 (List.map encC x0), .agg [.sl 5 cells, .sl 5 ops, .sl 1 dicts], aO o0, .agg (w1.row ++ w2.row), aO vl] [] (.bool true) := by
  refine ok_fn C (k_law11_HeapKeys C) rfl ?_
  obtain ⟨h0, ht, kh⟩ := kit_heapT C cells ops dicts hc
  have hs0 := ht.small
  have hw0 := few_small x0
  obtain ⟨hs, hhs⟩ : ∃ hs, hs = [fewL x0, h0] := ⟨_, rfl⟩
  have hlen : hs.length = 2 := by rw [hhs]; rfl
  have hsm : ∀ h ∈ hs, small h := by
    intro h hh
    rw [hhs] at hh
    simp only [List.mem_cons, List.not_mem_nil, or_false] at hh
    rcases hh with rfl | rfl
    · exact hw0
    · exact hs0
  clear hs0 hw0
  obtain ⟨aK, aA, aB, aN, aS, a1, a2, a3⟩ := w1
  obtain ⟨bK, bA, bB, bN, bS, b1, b2, b3⟩ := w2
  repeat' (conv => whnf
           first
             | (with_reducible refine sC (by kernel_rfl) ?_)
             | ((first | with_reducible refine sB ?_ | with_reducible refine sG0 ?_ | with_reducible refine sG1 ?_ | refine sP (by rfl) ?_); first | refine oT ?_ | refine oF ?_ | (refine Or.inr (Or.inr ⟨fun hsp => ?_, fun hsp => ?_⟩) <;> (try simp only [eqO, Ob.eta, Cl.eta, tt_true, tt_false, decide_eq_true_eq, decide_eq_false_iff_not, beq_iff_eq, beq_eq_false_iff_ne, bne_iff_ne, ne_eq, Bool.not_eq_true, Bool.not_eq_false, Bool.not_eq_eq_eq_not, Bool.not_true, Bool.not_false, Decidable.not_not, Int.not_lt, Int.not_le, gt_iff_lt, ge_iff_le, bne_eq_false_iff_eq, List.length_map] at hsp) <;> try subst hsp))
             | refine ⟨_, _, TdW11.ok C, ?_⟩
             | refine ⟨_, _, ok_law11_either C x0 cells ops dicts h0 kh, ?_⟩
             | fail)
  all_goals (conv => whnf)
  intro X hX hWX
  refine loopI hX (fun st (i : Nat) => st.upd [(38, .pv (pI (i : Int)))] []) (fun i k => i + k = hs.length ∧ (hs.drop i).length = hs.length - i) 0 hs.length (by (conv => whnf); first | done | rfl) (by simp) ?_
  intro m i ih hI
  rcases at_or hs i with ⟨h, hlt, hx⟩ | hge
  · have hsmh := hsm h (List.mem_of_getElem? hx)
    have hxx : [slC (fewL x0), slC h0][i]? = some (slC h) := by rw [show [slC (fewL x0), slC h0] = hs.map (fun h => slC h) by rw [hhs]; rfl, List.getElem?_map, hx]; rfl
    repeat' (conv => whnf
             first
               | (with_reducible refine sC (by kernel_rfl) ?_)
               | ((first | with_reducible refine sB ?_ | with_reducible refine sG0 ?_ | with_reducible refine sG1 ?_ | refine sP (by rfl) ?_); first | refine oT ?_ | refine oF ?_ | (refine Or.inr (Or.inr ⟨fun hsp => ?_, fun hsp => ?_⟩) <;> (try simp only [eqO, Ob.eta, Cl.eta, tt_true, tt_false, decide_eq_true_eq, decide_eq_false_iff_not, beq_iff_eq, beq_eq_false_iff_ne, bne_iff_ne, ne_eq, Bool.not_eq_true, Bool.not_eq_false, Bool.not_eq_eq_eq_not, Bool.not_true, Bool.not_false, Decidable.not_not, Int.not_lt, Int.not_le, gt_iff_lt, ge_iff_le, bne_eq_false_iff_eq, List.length_map] at hsp) <;> try subst hsp))
               | refine ⟨_, _, ok_law11_objs C o0 ⟨aK, aA, aB, aN, aS, a1, a2, a3⟩ h hsmh, ?_⟩
               | refine sS (index_false (a := slC (fewL x0)) (b := slC h0) (y := slC h) hxx (by rfl) (by rfl) (by rfl)) ?_
               | fail)
    all_goals (conv => whnf)
    intro Y hY hWY
    obtain ⟨os, hos⟩ : ∃ os, os = [o0, (objO h aK aA aB aN)] := ⟨_, rfl⟩
    have hol : os.length = 2 := by rw [hos]; rfl
    have hon : ∀ y ∈ os, y.n < 9223372036854775808 := by
      intro y hy
      rw [hos] at hy
      simp only [List.mem_cons, List.not_mem_nil, or_false] at hy
      rcases hy with rfl | rfl
      · exact ho0
      · exact obj_n h _ _ _ _ a1 a3
    refine loopI hY (fun st (j : Nat) => st.upd [(46, .pv (pI (j : Int)))] []) (fun j k => j + k = os.length ∧ (os.drop j).length = os.length - j) 0 os.length (by (conv => whnf); first | done | rfl) (by simp) ?_
    intro m2 j jh hJ
    rcases at_or os j with ⟨y, hlt2, hy⟩ | hge2
    · have hn := hon y (List.mem_of_getElem? hy)
      have hyy : [encO o0, encO (objO h aK aA aB aN)][j]? = some (encO y) := by rw [show [encO o0, encO (objO h aK aA aB aN)] = os.map encO by rw [hos]; rfl, List.getElem?_map, hy]; rfl
      have kF := ok_ref11_Fits C h y
      have kK := ok_heap_Key C h y hn
      by_cases hf : fits h y
      · rw [tt_eqT hf] at kF
        repeat' (conv => whnf
                 first
                   | (with_reducible refine sC (by kernel_rfl) ?_)
                   | ((first | with_reducible refine sB ?_ | with_reducible refine sG0 ?_ | with_reducible refine sG1 ?_ | refine sP (by rfl) ?_); first | refine oT ?_ | refine oF ?_ | (refine Or.inr (Or.inr ⟨fun hsp => ?_, fun hsp => ?_⟩) <;> (try simp only [eqO, Ob.eta, Cl.eta, tt_true, tt_false, decide_eq_true_eq, decide_eq_false_iff_not, beq_iff_eq, beq_eq_false_iff_ne, bne_iff_ne, ne_eq, Bool.not_eq_true, Bool.not_eq_false, Bool.not_eq_eq_eq_not, Bool.not_true, Bool.not_false, Decidable.not_not, Int.not_lt, Int.not_le, gt_iff_lt, ge_iff_le, bne_eq_false_iff_eq, List.length_map] at hsp) <;> try subst hsp))
                   | refine ⟨_, _, kF, ?_⟩
                   | refine ⟨_, _, kK, ?_⟩
                   | refine ⟨_, _, ok_ref11_Key C h y hf, ?_⟩
                   | refine ⟨_, _, ok_ref11_Word_Obj C h hsmh bK bA bB bN bS b1 b2 b3, ?_⟩
                   | refine sS (index_true (a := encO o0) (b := encO (objO h aK aA aB aN)) (y := encO y) hyy (by rfl) (by rfl) (by rfl) (by rfl) (by rfl)) ?_
                   | fail)
        all_goals (conv => whnf)
        intro Z hZ hWZ
        obtain ⟨qs, hqs⟩ : ∃ qs, qs = [(hKey h y).1, (objO h bK bA bB bN)] := ⟨_, rfl⟩
        have hql : qs.length = 2 := by rw [hqs]; rfl
        refine loopI hZ (fun st (q1 : Nat) => st.upd [(86, .pv (pI (q1 : Int)))] []) (fun q1 k => q1 + k = qs.length ∧ (qs.drop q1).length = qs.length - q1) 0 qs.length (by (conv => whnf); first | done | rfl) (by simp) ?_
        intro m3 q1 qh hQ
        rcases at_or qs q1 with ⟨q, hlt3, hq⟩ | hge3
        · have hqq : [encO (hKey h y).1, encO (objO h bK bA bB bN)][q1]? = some (encO q) := by rw [show [encO (hKey h y).1, encO (objO h bK bA bB bN)] = qs.map encO by rw [hqs]; rfl, List.getElem?_map, hq]; rfl
          rcases v9_cases hf with ⟨hk9, e9⟩ | ⟨hk9, e9⟩
          · obtain ⟨⟨hr1, hr2⟩, -, hkk, hcc⟩ := view_facts e9
            obtain ⟨hc3, -, -⟩ := hcc.resolve_left (by rw [hk9]; decide)
            have hsc := small_at hsmh y
            have hrl : y.ref < h.length := by omega
            rcases idx_cases (cellAt h y) q with hi | ⟨i0, hi, hik, hiv⟩
            · cases hp : putKV (cellAt h y) q vl with
              | none =>
                have kS1 := ok_ref11_Same C (h) (h) (small_big hsmh)
                rw [tt_eqT rfl] at kS1
                repeat' (conv => whnf
                         first
                           | (with_reducible refine sC (by kernel_rfl) ?_)
                           | ((first | with_reducible refine sB ?_ | with_reducible refine sG0 ?_ | with_reducible refine sG1 ?_ | refine sP (by rfl) ?_); first | refine oT ?_ | refine oF ?_ | (refine Or.inr (Or.inr ⟨fun hsp => ?_, fun hsp => ?_⟩) <;> (try simp only [eqO, Ob.eta, Cl.eta, tt_true, tt_false, decide_eq_true_eq, decide_eq_false_iff_not, beq_iff_eq, beq_eq_false_iff_ne, bne_iff_ne, ne_eq, Bool.not_eq_true, Bool.not_eq_false, Bool.not_eq_eq_eq_not, Bool.not_true, Bool.not_false, Decidable.not_not, Int.not_lt, Int.not_le, gt_iff_lt, ge_iff_le, bne_eq_false_iff_eq, List.length_map] at hsp) <;> try subst hsp))
                           | refine ⟨_, _, kF, ?_⟩
                           | refine ⟨_, _, ok_heap_Find C h y hn q hsmh e9, ?_⟩
                           | refine ⟨_, _, ok_ref11_Find C h y q hr1 hrl hsmh, ?_⟩
                           | refine ⟨_, _, ok_heap_Store_full C h y hn q vl hsmh e9 hp, ?_⟩
                           | refine ⟨_, _, ok_ref11_Store_full C h y q vl hr1 hrl hsmh hp, ?_⟩
                           | refine ⟨_, _, ok_heap_Remove_no C h y q hsmh hn e9 hi, ?_⟩
                           | refine ⟨_, _, ok_ref11_Remove_no C h y q hsmh hr1 hrl hi, ?_⟩
                           | refine ⟨_, _, kS1, ?_⟩
                           | refine ⟨_, _, (by have k := ok_law11_none C [] 2 2; rw [none_yesK] at k; exact k), ?_⟩
                           | refine ⟨_, _, (by have k := ok_law11_none C [] 22 22; rw [none_yesK] at k; exact k), ?_⟩
                           | refine ⟨_, _, (by have k := ok_law11_none C [] 30 30; rw [none_yesK] at k; exact k), ?_⟩
                           | refine sS (index_true (i := q1) (a := encO (hKey h y).1) (b := encO (objO h bK bA bB bN)) (y := encO q) hqq (by rfl) (by rfl) (by rfl) (by rfl) (by rfl)) ?_
                           | fail)
                all_goals (conv => whnf)
                all_goals (refine qh (m3 - 1) (q1 + 1) _ (by omega) ⟨by (try dsimp only); omega, ?_⟩ (by (conv => whnf); first | done | rfl | (simp (disch := omega) only [wrap_succ])); grind)
              | some t =>
                have kS1 := ok_ref11_Same C (h) (h) (small_big hsmh)
                rw [tt_eqT rfl] at kS1
                have kS2 := ok_ref11_Same C (h.set y.ref.toNat t) (h.set y.ref.toNat t) (big_set (small_big hsmh) (put_big hsc hp))
                rw [tt_eqT rfl] at kS2
                repeat' (conv => whnf
                         first
                           | (with_reducible refine sC (by kernel_rfl) ?_)
                           | ((first | with_reducible refine sB ?_ | with_reducible refine sG0 ?_ | with_reducible refine sG1 ?_ | refine sP (by rfl) ?_); first | refine oT ?_ | refine oF ?_ | (refine Or.inr (Or.inr ⟨fun hsp => ?_, fun hsp => ?_⟩) <;> (try simp only [eqO, Ob.eta, Cl.eta, tt_true, tt_false, decide_eq_true_eq, decide_eq_false_iff_not, beq_iff_eq, beq_eq_false_iff_ne, bne_iff_ne, ne_eq, Bool.not_eq_true, Bool.not_eq_false, Bool.not_eq_eq_eq_not, Bool.not_true, Bool.not_false, Decidable.not_not, Int.not_lt, Int.not_le, gt_iff_lt, ge_iff_le, bne_eq_false_iff_eq, List.length_map] at hsp) <;> try subst hsp))
                           | refine ⟨_, _, kF, ?_⟩
                           | refine ⟨_, _, ok_heap_Find C h y hn q hsmh e9, ?_⟩
                           | refine ⟨_, _, ok_ref11_Find C h y q hr1 hrl hsmh, ?_⟩
                           | refine ⟨_, _, ok_heap_Store C h y hn q vl t hsmh e9 hp, ?_⟩
                           | refine ⟨_, _, ok_ref11_Store C h y q vl t hr1 hrl hsmh hp, ?_⟩
                           | refine ⟨_, _, ok_heap_Remove_no C h y q hsmh hn e9 hi, ?_⟩
                           | refine ⟨_, _, ok_ref11_Remove_no C h y q hsmh hr1 hrl hi, ?_⟩
                           | refine ⟨_, _, kS1, ?_⟩
                           | refine ⟨_, _, kS2, ?_⟩
                           | refine ⟨_, _, (by have k := ok_law11_none C [] 2 2; rw [none_yesK] at k; exact k), ?_⟩
                           | refine ⟨_, _, (by have k := ok_law11_none C [] 22 22; rw [none_yesK] at k; exact k), ?_⟩
                           | refine ⟨_, _, (by have k := ok_law11_none C [] 30 30; rw [none_yesK] at k; exact k), ?_⟩
                           | refine sS (index_true (i := q1) (a := encO (hKey h y).1) (b := encO (objO h bK bA bB bN)) (y := encO q) hqq (by rfl) (by rfl) (by rfl) (by rfl) (by rfl)) ?_
                           | fail)
                all_goals (conv => whnf)
                all_goals (refine qh (m3 - 1) (q1 + 1) _ (by omega) ⟨by (try dsimp only); omega, ?_⟩ (by (conv => whnf); first | done | rfl | (simp (disch := omega) only [wrap_succ])); grind)
            · obtain ⟨t, hp⟩ := put_some (k := q) (v := vl) hi hiv
              have kS1 := ok_ref11_Same C (h.set y.ref.toNat (remAt (cellAt h y) i0)) (h.set y.ref.toNat (remAt (cellAt h y) i0)) (big_set (small_big hsmh) (rem_big (small_bigC hsc) i0))
              rw [tt_eqT rfl] at kS1
              have kS2 := ok_ref11_Same C (h.set y.ref.toNat t) (h.set y.ref.toNat t) (big_set (small_big hsmh) (put_big hsc hp))
              rw [tt_eqT rfl] at kS2
              repeat' (conv => whnf
                       first
                         | (with_reducible refine sC (by kernel_rfl) ?_)
                         | ((first | with_reducible refine sB ?_ | with_reducible refine sG0 ?_ | with_reducible refine sG1 ?_ | refine sP (by rfl) ?_); first | refine oT ?_ | refine oF ?_ | (refine Or.inr (Or.inr ⟨fun hsp => ?_, fun hsp => ?_⟩) <;> (try simp only [eqO, Ob.eta, Cl.eta, tt_true, tt_false, decide_eq_true_eq, decide_eq_false_iff_not, beq_iff_eq, beq_eq_false_iff_ne, bne_iff_ne, ne_eq, Bool.not_eq_true, Bool.not_eq_false, Bool.not_eq_eq_eq_not, Bool.not_true, Bool.not_false, Decidable.not_not, Int.not_lt, Int.not_le, gt_iff_lt, ge_iff_le, bne_eq_false_iff_eq, List.length_map] at hsp) <;> try subst hsp))
                         | refine ⟨_, _, kF, ?_⟩
                         | refine ⟨_, _, ok_heap_Find C h y hn q hsmh e9, ?_⟩
                         | refine ⟨_, _, ok_ref11_Find C h y q hr1 hrl hsmh, ?_⟩
                         | refine ⟨_, _, ok_heap_Store C h y hn q vl t hsmh e9 hp, ?_⟩
                         | refine ⟨_, _, ok_ref11_Store C h y q vl t hr1 hrl hsmh hp, ?_⟩
                         | refine ⟨_, _, pg C (ok_heap_Remove_gp C h y q hsmh hn e9 i0 hi hik hiv), ?_⟩
                         | refine ⟨_, _, ok_ref11_Remove C h y q hsmh hr1 hrl i0 hi hik hiv, ?_⟩
                         | refine ⟨_, _, kS1, ?_⟩
                         | refine ⟨_, _, kS2, ?_⟩
                         | refine ⟨_, _, (by have k := ok_law11_none C [] 2 2; rw [none_yesK] at k; exact k), ?_⟩
                         | refine ⟨_, _, (by have k := ok_law11_none C [] 22 22; rw [none_yesK] at k; exact k), ?_⟩
                         | refine ⟨_, _, (by have k := ok_law11_none C [] 30 30; rw [none_yesK] at k; exact k), ?_⟩
                         | refine sS (index_true (i := q1) (a := encO (hKey h y).1) (b := encO (objO h bK bA bB bN)) (y := encO q) hqq (by rfl) (by rfl) (by rfl) (by rfl) (by rfl)) ?_
                         | fail)
              all_goals (conv => whnf)
              all_goals (refine qh (m3 - 1) (q1 + 1) _ (by omega) ⟨by (try dsimp only); omega, ?_⟩ (by (conv => whnf); first | done | rfl | (simp (disch := omega) only [wrap_succ])); grind)
          · repeat' (conv => whnf
                     first
                       | (with_reducible refine sC (by kernel_rfl) ?_)
                       | ((first | with_reducible refine sB ?_ | with_reducible refine sG0 ?_ | with_reducible refine sG1 ?_ | refine sP (by rfl) ?_); first | refine oT ?_ | refine oF ?_ | (refine Or.inr (Or.inr ⟨fun hsp => ?_, fun hsp => ?_⟩) <;> (try simp only [eqO, Ob.eta, Cl.eta, tt_true, tt_false, decide_eq_true_eq, decide_eq_false_iff_not, beq_iff_eq, beq_eq_false_iff_ne, bne_iff_ne, ne_eq, Bool.not_eq_true, Bool.not_eq_false, Bool.not_eq_eq_eq_not, Bool.not_true, Bool.not_false, Decidable.not_not, Int.not_lt, Int.not_le, gt_iff_lt, ge_iff_le, bne_eq_false_iff_eq, List.length_map] at hsp) <;> try subst hsp))
                       | refine ⟨_, _, kF, ?_⟩
                       | refine ⟨_, _, (by have k := ok_heap_Find_bad C h y hn q (by rw [e9]; decide); rw [e9] at k; exact k), ?_⟩
                       | refine ⟨_, _, (by have k := ok_heap_Store_bad C h y hn q vl (by rw [e9]; decide); rw [e9] at k; exact k), ?_⟩
                       | refine ⟨_, _, (by have k := ok_heap_Remove_bad C h y q hn (by rw [e9]; decide); rw [e9] at k; exact k), ?_⟩
                       | refine ⟨_, _, (by have k := ok_law11_none C [] 2 2; rw [none_yesK] at k; exact k), ?_⟩
                       | refine ⟨_, _, (by have k := ok_law11_none C [] 22 22; rw [none_yesK] at k; exact k), ?_⟩
                       | refine ⟨_, _, (by have k := ok_law11_none C [] 30 30; rw [none_yesK] at k; exact k), ?_⟩
                       | refine sS (index_true (i := q1) (a := encO (hKey h y).1) (b := encO (objO h bK bA bB bN)) (y := encO q) hqq (by rfl) (by rfl) (by rfl) (by rfl) (by rfl)) ?_
                       | fail)
            all_goals (conv => whnf)
            all_goals (refine qh (m3 - 1) (q1 + 1) _ (by omega) ⟨by (try dsimp only); omega, ?_⟩ (by (conv => whnf); first | done | rfl | (simp (disch := omega) only [wrap_succ])); grind)
        · repeat' (conv => whnf
                   first
                     | (with_reducible refine sC (by kernel_rfl) ?_)
                     | ((first | with_reducible refine sB ?_ | with_reducible refine sG0 ?_ | with_reducible refine sG1 ?_ | refine sP (by rfl) ?_); first | refine oT ?_ | refine oF ?_ | (refine Or.inr (Or.inr ⟨fun hsp => ?_, fun hsp => ?_⟩) <;> (try simp only [eqO, Ob.eta, Cl.eta, tt_true, tt_false, decide_eq_true_eq, decide_eq_false_iff_not, beq_iff_eq, beq_eq_false_iff_ne, bne_iff_ne, ne_eq, Bool.not_eq_true, Bool.not_eq_false, Bool.not_eq_eq_eq_not, Bool.not_true, Bool.not_false, Decidable.not_not, Int.not_lt, Int.not_le, gt_iff_lt, ge_iff_le, bne_eq_false_iff_eq, List.length_map] at hsp) <;> try subst hsp))
                     | fail)
          all_goals (conv => whnf)
          all_goals first
            | (refine jh (m2 - 1) (j + 1) _ (by omega) ⟨by (try dsimp only); omega, ?_⟩ (by (conv => whnf); first | done | rfl | (simp (disch := omega) only [wrap_succ])); grind)
      · rw [tt_eqF hf] at kF
        rw [key_bad hf] at kK
        repeat' (conv => whnf
                 first
                   | (with_reducible refine sC (by kernel_rfl) ?_)
                   | ((first | with_reducible refine sB ?_ | with_reducible refine sG0 ?_ | with_reducible refine sG1 ?_ | refine sP (by rfl) ?_); first | refine oT ?_ | refine oF ?_ | (refine Or.inr (Or.inr ⟨fun hsp => ?_, fun hsp => ?_⟩) <;> (try simp only [eqO, Ob.eta, Cl.eta, tt_true, tt_false, decide_eq_true_eq, decide_eq_false_iff_not, beq_iff_eq, beq_eq_false_iff_ne, bne_iff_ne, ne_eq, Bool.not_eq_true, Bool.not_eq_false, Bool.not_eq_eq_eq_not, Bool.not_true, Bool.not_false, Decidable.not_not, Int.not_lt, Int.not_le, gt_iff_lt, ge_iff_le, bne_eq_false_iff_eq, List.length_map] at hsp) <;> try subst hsp))
                   | refine ⟨_, _, kF, ?_⟩
                   | refine ⟨_, _, kK, ?_⟩
                   | refine ⟨_, _, ok_ref11_Word_Obj C h hsmh bK bA bB bN bS b1 b2 b3, ?_⟩
                   | refine sS (index_true (a := encO o0) (b := encO (objO h aK aA aB aN)) (y := encO y) hyy (by rfl) (by rfl) (by rfl) (by rfl) (by rfl)) ?_
                   | fail)
        all_goals (conv => whnf)
        intro Z hZ hWZ
        obtain ⟨qs, hqs⟩ : ∃ qs, qs = [ob0, (objO h bK bA bB bN)] := ⟨_, rfl⟩
        have hql : qs.length = 2 := by rw [hqs]; rfl
        refine loopI hZ (fun st (q1 : Nat) => st.upd [(86, .pv (pI (q1 : Int)))] []) (fun q1 k => q1 + k = qs.length ∧ (qs.drop q1).length = qs.length - q1) 0 qs.length (by (conv => whnf); first | done | rfl) (by simp) ?_
        intro m3 q1 qh hQ
        rcases at_or qs q1 with ⟨q, hlt3, hq⟩ | hge3
        · have hqq : [encO ob0, encO (objO h bK bA bB bN)][q1]? = some (encO q) := by rw [show [encO ob0, encO (objO h bK bA bB bN)] = qs.map encO by rw [hqs]; rfl, List.getElem?_map, hq]; rfl
          have e9 : vErr h y [9] = 2 := by unfold vErr; rw [if_pos hf]
          repeat' (conv => whnf
                   first
                     | (with_reducible refine sC (by kernel_rfl) ?_)
                     | ((first | with_reducible refine sB ?_ | with_reducible refine sG0 ?_ | with_reducible refine sG1 ?_ | refine sP (by rfl) ?_); first | refine oT ?_ | refine oF ?_ | (refine Or.inr (Or.inr ⟨fun hsp => ?_, fun hsp => ?_⟩) <;> (try simp only [eqO, Ob.eta, Cl.eta, tt_true, tt_false, decide_eq_true_eq, decide_eq_false_iff_not, beq_iff_eq, beq_eq_false_iff_ne, bne_iff_ne, ne_eq, Bool.not_eq_true, Bool.not_eq_false, Bool.not_eq_eq_eq_not, Bool.not_true, Bool.not_false, Decidable.not_not, Int.not_lt, Int.not_le, gt_iff_lt, ge_iff_le, bne_eq_false_iff_eq, List.length_map] at hsp) <;> try subst hsp))
                     | refine ⟨_, _, kF, ?_⟩
                     | refine ⟨_, _, (by have k := ok_heap_Find_bad C h y hn q (by rw [e9]; decide); rw [e9] at k; exact k), ?_⟩
                     | refine ⟨_, _, (by have k := ok_heap_Store_bad C h y hn q vl (by rw [e9]; decide); rw [e9] at k; exact k), ?_⟩
                     | refine ⟨_, _, (by have k := ok_heap_Remove_bad C h y q hn (by rw [e9]; decide); rw [e9] at k; exact k), ?_⟩
                     | refine ⟨_, _, (by have k := ok_law11_none C [] 2 2; rw [none_yesK] at k; exact k), ?_⟩
                     | refine ⟨_, _, (by have k := ok_law11_none C [] 22 22; rw [none_yesK] at k; exact k), ?_⟩
                     | refine ⟨_, _, (by have k := ok_law11_none C [] 30 30; rw [none_yesK] at k; exact k), ?_⟩
                     | refine sS (index_true (i := q1) (a := encO ob0) (b := encO (objO h bK bA bB bN)) (y := encO q) hqq (by rfl) (by rfl) (by rfl) (by rfl) (by rfl)) ?_
                     | fail)
          all_goals (conv => whnf)
          all_goals (refine qh (m3 - 1) (q1 + 1) _ (by omega) ⟨by (try dsimp only); omega, ?_⟩ (by (conv => whnf); first | done | rfl | (simp (disch := omega) only [wrap_succ])); grind)
        · repeat' (conv => whnf
                   first
                     | (with_reducible refine sC (by kernel_rfl) ?_)
                     | ((first | with_reducible refine sB ?_ | with_reducible refine sG0 ?_ | with_reducible refine sG1 ?_ | refine sP (by rfl) ?_); first | refine oT ?_ | refine oF ?_ | (refine Or.inr (Or.inr ⟨fun hsp => ?_, fun hsp => ?_⟩) <;> (try simp only [eqO, Ob.eta, Cl.eta, tt_true, tt_false, decide_eq_true_eq, decide_eq_false_iff_not, beq_iff_eq, beq_eq_false_iff_ne, bne_iff_ne, ne_eq, Bool.not_eq_true, Bool.not_eq_false, Bool.not_eq_eq_eq_not, Bool.not_true, Bool.not_false, Decidable.not_not, Int.not_lt, Int.not_le, gt_iff_lt, ge_iff_le, bne_eq_false_iff_eq, List.length_map] at hsp) <;> try subst hsp))
                     | fail)
          all_goals (conv => whnf)
          all_goals first
            | (refine jh (m2 - 1) (j + 1) _ (by omega) ⟨by (try dsimp only); omega, ?_⟩ (by (conv => whnf); first | done | rfl | (simp (disch := omega) only [wrap_succ])); grind)
    · repeat' (conv => whnf
               first
                 | (with_reducible refine sC (by kernel_rfl) ?_)
                 | ((first | with_reducible refine sB ?_ | with_reducible refine sG0 ?_ | with_reducible refine sG1 ?_ | refine sP (by rfl) ?_); first | refine oT ?_ | refine oF ?_ | (refine Or.inr (Or.inr ⟨fun hsp => ?_, fun hsp => ?_⟩) <;> (try simp only [eqO, Ob.eta, Cl.eta, tt_true, tt_false, decide_eq_true_eq, decide_eq_false_iff_not, beq_iff_eq, beq_eq_false_iff_ne, bne_iff_ne, ne_eq, Bool.not_eq_true, Bool.not_eq_false, Bool.not_eq_eq_eq_not, Bool.not_true, Bool.not_false, Decidable.not_not, Int.not_lt, Int.not_le, gt_iff_lt, ge_iff_le, bne_eq_false_iff_eq, List.length_map] at hsp) <;> try subst hsp))
                 | fail)
      all_goals (conv => whnf)
      all_goals first
        | (refine ih (m - 1) (i + 1) _ (by omega) ⟨by (try dsimp only); omega, ?_⟩ (by (conv => whnf); first | done | rfl | (simp (disch := omega) only [wrap_succ])); grind)
  
  · repeat' (conv => whnf
             first
               | (with_reducible refine sC (by kernel_rfl) ?_)
               | ((first | with_reducible refine sB ?_ | with_reducible refine sG0 ?_ | with_reducible refine sG1 ?_ | refine sP (by rfl) ?_); first | refine oT ?_ | refine oF ?_ | (refine Or.inr (Or.inr ⟨fun hsp => ?_, fun hsp => ?_⟩) <;> (try simp only [eqO, Ob.eta, Cl.eta, tt_true, tt_false, decide_eq_true_eq, decide_eq_false_iff_not, beq_iff_eq, beq_eq_false_iff_ne, bne_iff_ne, ne_eq, Bool.not_eq_true, Bool.not_eq_false, Bool.not_eq_eq_eq_not, Bool.not_true, Bool.not_false, Decidable.not_not, Int.not_lt, Int.not_le, gt_iff_lt, ge_iff_le, bne_eq_false_iff_eq, List.length_map] at hsp) <;> try subst hsp))
               | fail)
    all_goals (conv => whnf)
    all_goals (exact PV.le.refl _)
end Go.Ab.Td
