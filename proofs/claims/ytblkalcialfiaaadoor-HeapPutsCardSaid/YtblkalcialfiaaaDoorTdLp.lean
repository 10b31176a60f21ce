/- HeapPuts: the law. Under: nothing. -/
import Derived.Test.YtblkalcialfiaaaDoorTdPu
import Derived.Test.YtblkalcialfiaaaDoorTdSm
import Derived.Test.YtblkalcialfiaaaDoorTdLr
import Derived.Test.YtblkalcialfiaaaDoorTdAr2
namespace Go.Ab.Td
open Go Go.Ab
variable {P : Program}
set_option linter.unusedSimpArgs false
attribute [local irreducible] compat
theorem none_yes {e : Int} : (decide (([] : List Cl) = []) && decide (e = e)) = true := by simp
theorem put_small {h : List Cl} (hs : small h) {i : Nat} {c : Cl} (hc : c.small) : small (h.set i c) := by
  refine ⟨by rw [List.length_set]; exact hs.1, fun d hd => ?_⟩
  rcases List.mem_or_eq_of_mem_set hd with hd | rfl
  · exact hs.2 d hd
  · exact hc


set_option maxHeartbeats 4000000 in
set_option maxRecDepth 100000 in
theorem ok_law11_HeapPuts (C : Laid P) (x0 : List Cl) (cells ops dicts : List (List PV)) (hc : ∀ r ∈ cells, WordR r) (o0 : Ob) (ho0 : o0.n < 9223372036854775808) (w : Wd) (at1 : Int) (s0 : List UInt8) (y0 : List Ob) : OkC P G n_law11_HeapPuts [.sl 7 (List.map encC x0), .agg [.sl 5 cells, .sl 5 ops, .sl 1 dicts], aO o0, .agg w.row, pI at1, .str s0, .sl 7 (List.map encO y0)] [] (.bool true) := by
  refine ok_fn C (k_law11_HeapPuts C) rfl ?_
  obtain ⟨h0, ht, kh⟩ := kit_heapT C cells ops dicts hc
  have hs0 := ht.small
  have hw0 := few_small x0
  obtain ⟨hs, hhs⟩ : ∃ hs, hs = [fewL x0, h0] := ⟨_, rfl⟩
  have hlen : hs.length = 2 := by rw [hhs]; rfl
  have hsm : ∀ h ∈ hs, small h := by
    intro h hh
    rw [hhs] at hh
    simp only [List.mem_cons, List.not_mem_nil, or_false] at hh
    rcases hh with rfl | rfl
    · exact hw0
    · exact hs0
  clear hs0 hw0
  have hS : (s0.take (30 : Int).toNat).length ≤ 30 := by rw [show (30 : Int).toNat = 30 from rfl, List.length_take]; omega
  have hL : (y0.take (8 : Int).toNat).length ≤ 8 := by rw [show (8 : Int).toNat = 8 from rfl, List.length_take]; omega
  repeat' (conv => whnf
           first
             | (with_reducible refine sC (by kernel_rfl) ?_)
             | ((first | with_reducible refine sB ?_ | with_reducible refine sG0 ?_ | with_reducible refine sG1 ?_ | refine sP (by rfl) ?_); first | refine Or.inl ⟨by first | assumption | (simp only [eqO, Ob.eta, Cl.eta, tt_true, tt_false, decide_eq_true_eq, decide_eq_false_iff_not, beq_iff_eq, beq_eq_false_iff_ne, bne_iff_ne, ne_eq, Bool.not_eq_true, Bool.not_eq_false, Bool.not_eq_eq_eq_not, Bool.not_true, Bool.not_false, Decidable.not_not, Int.not_lt, Int.not_le, gt_iff_lt, ge_iff_le, bne_eq_false_iff_eq, List.length_map]; first | done | assumption | omega), ?_⟩ | refine Or.inr (Or.inl ⟨by first | assumption | (simp only [eqO, Ob.eta, Cl.eta, tt_true, tt_false, decide_eq_true_eq, decide_eq_false_iff_not, beq_iff_eq, beq_eq_false_iff_ne, bne_iff_ne, ne_eq, Bool.not_eq_true, Bool.not_eq_false, Bool.not_eq_eq_eq_not, Bool.not_true, Bool.not_false, Decidable.not_not, Int.not_lt, Int.not_le, gt_iff_lt, ge_iff_le, bne_eq_false_iff_eq, List.length_map]; first | done | assumption | omega), ?_⟩) | (refine Or.inr (Or.inr ⟨fun hsp => ?_, fun hsp => ?_⟩) <;> (try simp only [eqO, Ob.eta, Cl.eta, tt_true, tt_false, decide_eq_true_eq, decide_eq_false_iff_not, beq_iff_eq, beq_eq_false_iff_ne, bne_iff_ne, ne_eq, Bool.not_eq_true, Bool.not_eq_false, Bool.not_eq_eq_eq_not, Bool.not_true, Bool.not_false, Decidable.not_not, Int.not_lt, Int.not_le, gt_iff_lt, ge_iff_le, bne_eq_false_iff_eq, List.length_map] at hsp) <;> try subst hsp))
             | refine ⟨_, _, TdW11.ok C, ?_⟩
             | refine ⟨_, _, ok_law11_either C x0 cells ops dicts h0 kh, ?_⟩
             | refine sS (slice_min (f := encC) (by rfl) (by rfl) (by decide)) ?_
             | refine sS (slice_min (f := encO) (by rfl) (by rfl) (by decide)) ?_
             | refine sS (sslice_min (by rfl) (by rfl) (by decide)) ?_
             | refine sS (append_oM (f := encO) (l := ([] : List Ob)) (x' := (y0.take (8 : Int).toNat)) (by rfl) (by rfl) (by rfl) (by first | exact prows_pv | exact prows_fsl | exact prows_own (by rfl) (by rfl)) (by rfl) (by simp only [List.length_take]; omega)) ?_
             | fail)
  all_goals (conv => whnf)
  intro X hX hWX
  refine loopI hX (fun st (c : Nat × Bool) => st.upd [(15, .own 68 0 (y0.take (8 : Int).toNat).length), (41, .pv (pI (c.1 : Int)))] [(68, .arr 7 ((y0.take (8 : Int).toNat).map encO) c.2)]) (fun c k => c.1 + k = hs.length ∧ (hs.drop c.1).length = hs.length - c.1) (0, false) hs.length (by (conv => whnf); first | done | rfl | (simp only [Nat.zero_add, List.nil_append]; rfl)) (by simp) ?_
  intro m c ih hI
  rcases at_or hs c.1 with ⟨h, hlt, hx⟩ | hge
  · have hsmh := hsm h (List.mem_of_getElem? hx)
    have hxx : [slC (fewL x0), slC h0][c.1]? = some (slC h) := by rw [show [slC (fewL x0), slC h0] = hs.map (fun h => slC h) by rw [hhs]; rfl, List.getElem?_map, hx]; rfl
    repeat' (conv => whnf
             first
               | (with_reducible refine sC (by kernel_rfl) ?_)
               | ((first | with_reducible refine sB ?_ | with_reducible refine sG0 ?_ | with_reducible refine sG1 ?_ | refine sP (by rfl) ?_); first | refine Or.inl ⟨by first | assumption | (simp only [eqO, Ob.eta, Cl.eta, tt_true, tt_false, decide_eq_true_eq, decide_eq_false_iff_not, beq_iff_eq, beq_eq_false_iff_ne, bne_iff_ne, ne_eq, Bool.not_eq_true, Bool.not_eq_false, Bool.not_eq_eq_eq_not, Bool.not_true, Bool.not_false, Decidable.not_not, Int.not_lt, Int.not_le, gt_iff_lt, ge_iff_le, bne_eq_false_iff_eq, List.length_map]; first | done | assumption | omega), ?_⟩ | refine Or.inr (Or.inl ⟨by first | assumption | (simp only [eqO, Ob.eta, Cl.eta, tt_true, tt_false, decide_eq_true_eq, decide_eq_false_iff_not, beq_iff_eq, beq_eq_false_iff_ne, bne_iff_ne, ne_eq, Bool.not_eq_true, Bool.not_eq_false, Bool.not_eq_eq_eq_not, Bool.not_true, Bool.not_false, Decidable.not_not, Int.not_lt, Int.not_le, gt_iff_lt, ge_iff_le, bne_eq_false_iff_eq, List.length_map]; first | done | assumption | omega), ?_⟩) | (refine Or.inr (Or.inr ⟨fun hsp => ?_, fun hsp => ?_⟩) <;> (try simp only [eqO, Ob.eta, Cl.eta, tt_true, tt_false, decide_eq_true_eq, decide_eq_false_iff_not, beq_iff_eq, beq_eq_false_iff_ne, bne_iff_ne, ne_eq, Bool.not_eq_true, Bool.not_eq_false, Bool.not_eq_eq_eq_not, Bool.not_true, Bool.not_false, Decidable.not_not, Int.not_lt, Int.not_le, gt_iff_lt, ge_iff_le, bne_eq_false_iff_eq, List.length_map] at hsp) <;> try subst hsp))
               | refine ⟨_, _, ok_law11_objs C o0 w h hsmh, ?_⟩
               | refine sS (index_false (i := c.1) (a := slC (fewL x0)) (b := slC h0) (y := slC h) hxx (by rfl) (by rfl) (by rfl)) ?_
               | fail)
    all_goals (conv => whnf)
    intro Y hY hWY
    obtain ⟨os, hos⟩ : ∃ os, os = [o0, objO h w.K w.A w.B w.N] := ⟨_, rfl⟩
    have hol : os.length = 2 := by rw [hos]; rfl
    have hon : ∀ y ∈ os, y.n < 9223372036854775808 := by
      intro y hy
      rw [hos] at hy
      simp only [List.mem_cons, List.not_mem_nil, or_false] at hy
      rcases hy with rfl | rfl
      · exact ho0
      · exact obj_n h _ _ _ _ w.hA w.hN
    refine loopI hY (fun st (a : Nat × Bool) => st.upd [(15, .own 2 0 (y0.take (8 : Int).toNat).length), (48, .pv (pI (a.1 : Int)))] [(2, .arr 7 ((y0.take (8 : Int).toNat).map encO) a.2)]) (fun a k => a.1 + k = os.length ∧ (os.drop a.1).length = os.length - a.1) (0, c.2) os.length (by (conv => whnf); first | done | rfl) (by simp) ?_
    intro m2 a jh hJ
    rcases at_or os a.1 with ⟨y, hlt2, hy⟩ | hge2
    · have hn := hon y (List.mem_of_getElem? hy)
      have hyy : [encO o0, encO (objO h w.K w.A w.B w.N)][a.1]? = some (encO y) := by rw [show [encO o0, encO (objO h w.K w.A w.B w.N)] = os.map encO by rw [hos]; rfl, List.getElem?_map, hy]; rfl
      rcases rd_cases h y with ⟨hf, e6, e78, eL⟩ | ⟨hf, hk, e6, e78, eL⟩ | ⟨hf, hk, e6, e78, eL⟩ | ⟨hf, hk, e6, e78, eL⟩ | ⟨hf, hk, e6, e78, eL⟩
      · have kF := ok_ref11_Fits C h y
        rw [tt_eqF hf] at kF
        repeat' (conv => whnf
                 first
                   | (with_reducible refine sC (by kernel_rfl) ?_)
                   | ((first | with_reducible refine sB ?_ | with_reducible refine sG0 ?_ | with_reducible refine sG1 ?_ | refine sP (by rfl) ?_); first | refine Or.inl ⟨by first | assumption | (simp only [eqO, Ob.eta, Cl.eta, tt_true, tt_false, decide_eq_true_eq, decide_eq_false_iff_not, beq_iff_eq, beq_eq_false_iff_ne, bne_iff_ne, ne_eq, Bool.not_eq_true, Bool.not_eq_false, Bool.not_eq_eq_eq_not, Bool.not_true, Bool.not_false, Decidable.not_not, Int.not_lt, Int.not_le, gt_iff_lt, ge_iff_le, bne_eq_false_iff_eq, List.length_map]; first | done | assumption | omega), ?_⟩ | refine Or.inr (Or.inl ⟨by first | assumption | (simp only [eqO, Ob.eta, Cl.eta, tt_true, tt_false, decide_eq_true_eq, decide_eq_false_iff_not, beq_iff_eq, beq_eq_false_iff_ne, bne_iff_ne, ne_eq, Bool.not_eq_true, Bool.not_eq_false, Bool.not_eq_eq_eq_not, Bool.not_true, Bool.not_false, Decidable.not_not, Int.not_lt, Int.not_le, gt_iff_lt, ge_iff_le, bne_eq_false_iff_eq, List.length_map]; first | done | assumption | omega), ?_⟩) | (refine Or.inr (Or.inr ⟨fun hsp => ?_, fun hsp => ?_⟩) <;> (try simp only [eqO, Ob.eta, Cl.eta, tt_true, tt_false, decide_eq_true_eq, decide_eq_false_iff_not, beq_iff_eq, beq_eq_false_iff_ne, bne_iff_ne, ne_eq, Bool.not_eq_true, Bool.not_eq_false, Bool.not_eq_eq_eq_not, Bool.not_true, Bool.not_false, Decidable.not_not, Int.not_lt, Int.not_le, gt_iff_lt, ge_iff_le, bne_eq_false_iff_eq, List.length_map] at hsp) <;> try subst hsp))
                   | refine ⟨_, _, kF, ?_⟩
                   | refine ⟨_, _, (by have k := ok_heap_PutBytes_bad C h y hn at1 (s0.take (30 : Int).toNat) (by rw [e6]; decide); rw [e6] at k; exact k), ?_⟩
                   | refine ⟨_, _, (by rw [pub_all (f := encO) (l := (y0.take (8 : Int).toNat)) rfl]; have k := ok_heap_PutItems_bad C h y hn at1 (y0.take (8 : Int).toNat) (by rw [e78]; decide); rw [e78] at k; exact k), ?_⟩
                   | refine ⟨_, _, (by have k := ok_law11_none C [] 2 2; rw [none_yes] at k; exact k), ?_⟩
                   | refine ⟨_, _, (by have k := ok_law11_none C [] 22 22; rw [none_yes] at k; exact k), ?_⟩
                   | refine ⟨_, _, (by have k := ok_law11_none C [] 23 23; rw [none_yes] at k; exact k), ?_⟩
                   | refine ⟨_, _, (by have k := ok_law11_none C [] 31 31; rw [none_yes] at k; exact k), ?_⟩
                   | refine sS (index_true (i := a.1) (a := encO o0) (b := encO (objO h w.K w.A w.B w.N)) (y := encO y) hyy (by rfl) (by rfl) (by rfl) (by rfl) (by rfl)) ?_
                   | fail)
        all_goals (conv => whnf)
        all_goals first
          | (refine jh (m2 - 1) (a.1 + 1, true) _ (by omega) ⟨by (try dsimp only); omega, ?_⟩ (by (conv => whnf); first | done | rfl | (simp (disch := omega) only [wrap_succ])); grind)
          | (refine jh (m2 - 1) (a.1 + 1, a.2) _ (by omega) ⟨by (try dsimp only); omega, ?_⟩ (by (conv => whnf); first | done | rfl | (simp (disch := omega) only [wrap_succ])); grind)
      · by_cases hrm : (at1 < 0 ∨ at1 > y.len ∨ ((s0.take (30 : Int).toNat).length : Int) > IntKind.i64.wrap (y.len - at1))
        · have kF := ok_ref11_Fits C h y
          rw [tt_eqT hf] at kF
          obtain ⟨⟨hr1, hr2⟩, ⟨hf1, hf2, hf3⟩, hc6⟩ := vfacts6 e6
          obtain ⟨hm1, hm2, hm3, hm4⟩ := small_at hsmh y
          have hr : roomE y at1 (s0.take (30 : Int).toNat).length ≠ 0 := by unfold roomE; rw [if_pos hrm]; decide
          repeat' (conv => whnf
                   first
                     | (with_reducible refine sC (by kernel_rfl) ?_)
                     | ((first | with_reducible refine sB ?_ | with_reducible refine sG0 ?_ | with_reducible refine sG1 ?_ | refine sP (by rfl) ?_); first | refine Or.inl ⟨by first | assumption | (simp only [eqO, Ob.eta, Cl.eta, tt_true, tt_false, decide_eq_true_eq, decide_eq_false_iff_not, beq_iff_eq, beq_eq_false_iff_ne, bne_iff_ne, ne_eq, Bool.not_eq_true, Bool.not_eq_false, Bool.not_eq_eq_eq_not, Bool.not_true, Bool.not_false, Decidable.not_not, Int.not_lt, Int.not_le, gt_iff_lt, ge_iff_le, bne_eq_false_iff_eq, List.length_map]; first | done | assumption | omega), ?_⟩ | refine Or.inr (Or.inl ⟨by first | assumption | (simp only [eqO, Ob.eta, Cl.eta, tt_true, tt_false, decide_eq_true_eq, decide_eq_false_iff_not, beq_iff_eq, beq_eq_false_iff_ne, bne_iff_ne, ne_eq, Bool.not_eq_true, Bool.not_eq_false, Bool.not_eq_eq_eq_not, Bool.not_true, Bool.not_false, Decidable.not_not, Int.not_lt, Int.not_le, gt_iff_lt, ge_iff_le, bne_eq_false_iff_eq, List.length_map]; first | done | assumption | omega), ?_⟩) | (refine Or.inr (Or.inr ⟨fun hsp => ?_, fun hsp => ?_⟩) <;> (try simp only [eqO, Ob.eta, Cl.eta, tt_true, tt_false, decide_eq_true_eq, decide_eq_false_iff_not, beq_iff_eq, beq_eq_false_iff_ne, bne_iff_ne, ne_eq, Bool.not_eq_true, Bool.not_eq_false, Bool.not_eq_eq_eq_not, Bool.not_true, Bool.not_false, Decidable.not_not, Int.not_lt, Int.not_le, gt_iff_lt, ge_iff_le, bne_eq_false_iff_eq, List.length_map] at hsp) <;> try subst hsp))
                     | refine ⟨_, _, kF, ?_⟩
                     | refine ⟨_, _, ok_heap_PutBytes_room C h y hn at1 (s0.take (30 : Int).toNat) e6 hr, ?_⟩
                     | refine ⟨_, _, (by rw [pub_all (f := encO) (l := (y0.take (8 : Int).toNat)) rfl]; have k := ok_heap_PutItems_bad C h y hn at1 (y0.take (8 : Int).toNat) (by rw [e78]; decide); rw [e78] at k; exact k), ?_⟩
                     | refine ⟨_, _, (by have k := ok_law11_none C [] 2 2; rw [none_yes] at k; exact k), ?_⟩
                     | refine ⟨_, _, (by have k := ok_law11_none C [] 22 22; rw [none_yes] at k; exact k), ?_⟩
                     | refine ⟨_, _, (by have k := ok_law11_none C [] 23 23; rw [none_yes] at k; exact k), ?_⟩
                     | refine ⟨_, _, (by have k := ok_law11_none C [] 31 31; rw [none_yes] at k; exact k), ?_⟩
                     | refine sS (index_true (i := a.1) (a := encO o0) (b := encO (objO h w.K w.A w.B w.N)) (y := encO y) hyy (by rfl) (by rfl) (by rfl) (by rfl) (by rfl)) ?_
                     | fail)
          all_goals (conv => whnf)
          all_goals first
            | (refine jh (m2 - 1) (a.1 + 1, true) _ (by omega) ⟨by (try dsimp only); omega, ?_⟩ (by (conv => whnf); first | done | rfl | (simp (disch := omega) only [wrap_succ])); grind)
            | (refine jh (m2 - 1) (a.1 + 1, a.2) _ (by omega) ⟨by (try dsimp only); omega, ?_⟩ (by (conv => whnf); first | done | rfl | (simp (disch := omega) only [wrap_succ])); grind)
        · have kF := ok_ref11_Fits C h y
          rw [tt_eqT hf] at kF
          obtain ⟨⟨hr1, hr2⟩, ⟨hf1, hf2, hf3⟩, hc6⟩ := vfacts6 e6
          obtain ⟨hm1, hm2, hm3, hm4⟩ := small_at hsmh y
          have hr : roomE y at1 (s0.take (30 : Int).toNat).length = 0 := by unfold roomE; rw [if_neg hrm]
          obtain ⟨ha1, ha2, ha3⟩ := room_ok hr (by omega) (by omega)
          have hps : small (putBh h y at1 (s0.take (30 : Int).toNat)) := put_small hsmh ⟨hm1, hm2, hm3, by dsimp only; rw [repl_len (by omega)]; exact hm4⟩
          have kS := ok_ref11_Same C (putBh h y at1 (s0.take (30 : Int).toNat)) (putBh h y at1 (s0.take (30 : Int).toNat)) (small_big hps)
          rw [tt_eqT rfl] at kS
          repeat' (conv => whnf
                   first
                     | (with_reducible refine sC (by kernel_rfl) ?_)
                     | ((first | with_reducible refine sB ?_ | with_reducible refine sG0 ?_ | with_reducible refine sG1 ?_ | refine sP (by rfl) ?_); first | refine Or.inl ⟨by first | assumption | (simp only [eqO, Ob.eta, Cl.eta, tt_true, tt_false, decide_eq_true_eq, decide_eq_false_iff_not, beq_iff_eq, beq_eq_false_iff_ne, bne_iff_ne, ne_eq, Bool.not_eq_true, Bool.not_eq_false, Bool.not_eq_eq_eq_not, Bool.not_true, Bool.not_false, Decidable.not_not, Int.not_lt, Int.not_le, gt_iff_lt, ge_iff_le, bne_eq_false_iff_eq, List.length_map]; first | done | assumption | omega), ?_⟩ | refine Or.inr (Or.inl ⟨by first | assumption | (simp only [eqO, Ob.eta, Cl.eta, tt_true, tt_false, decide_eq_true_eq, decide_eq_false_iff_not, beq_iff_eq, beq_eq_false_iff_ne, bne_iff_ne, ne_eq, Bool.not_eq_true, Bool.not_eq_false, Bool.not_eq_eq_eq_not, Bool.not_true, Bool.not_false, Decidable.not_not, Int.not_lt, Int.not_le, gt_iff_lt, ge_iff_le, bne_eq_false_iff_eq, List.length_map]; first | done | assumption | omega), ?_⟩) | (refine Or.inr (Or.inr ⟨fun hsp => ?_, fun hsp => ?_⟩) <;> (try simp only [eqO, Ob.eta, Cl.eta, tt_true, tt_false, decide_eq_true_eq, decide_eq_false_iff_not, beq_iff_eq, beq_eq_false_iff_ne, bne_iff_ne, ne_eq, Bool.not_eq_true, Bool.not_eq_false, Bool.not_eq_eq_eq_not, Bool.not_true, Bool.not_false, Decidable.not_not, Int.not_lt, Int.not_le, gt_iff_lt, ge_iff_le, bne_eq_false_iff_eq, List.length_map] at hsp) <;> try subst hsp))
                     | refine ⟨_, _, kF, ?_⟩
                     | refine ⟨_, _, ok_heap_PutBytes C h y hsmh hn at1 (s0.take (30 : Int).toNat) e6 hr, ?_⟩
                     | refine ⟨_, _, (by rw [pub_all (f := encO) (l := (y0.take (8 : Int).toNat)) rfl]; have k := ok_heap_PutItems_bad C h y hn at1 (y0.take (8 : Int).toNat) (by rw [e78]; decide); rw [e78] at k; exact k), ?_⟩
                     | refine ⟨_, _, ok_ref11_PutBytes C h y hsmh hn at1 (s0.take (30 : Int).toNat) hS e6 hr, ?_⟩
                     | refine ⟨_, _, kS, ?_⟩
                     | refine ⟨_, _, (by have k := ok_law11_none C [] 2 2; rw [none_yes] at k; exact k), ?_⟩
                     | refine ⟨_, _, (by have k := ok_law11_none C [] 22 22; rw [none_yes] at k; exact k), ?_⟩
                     | refine ⟨_, _, (by have k := ok_law11_none C [] 23 23; rw [none_yes] at k; exact k), ?_⟩
                     | refine ⟨_, _, (by have k := ok_law11_none C [] 31 31; rw [none_yes] at k; exact k), ?_⟩
                     | refine sS (index_true (i := a.1) (a := encO o0) (b := encO (objO h w.K w.A w.B w.N)) (y := encO y) hyy (by rfl) (by rfl) (by rfl) (by rfl) (by rfl)) ?_
                     | fail)
          all_goals (conv => whnf)
          all_goals first
            | (refine jh (m2 - 1) (a.1 + 1, true) _ (by omega) ⟨by (try dsimp only); omega, ?_⟩ (by (conv => whnf); first | done | rfl | (simp (disch := omega) only [wrap_succ])); grind)
            | (refine jh (m2 - 1) (a.1 + 1, a.2) _ (by omega) ⟨by (try dsimp only); omega, ?_⟩ (by (conv => whnf); first | done | rfl | (simp (disch := omega) only [wrap_succ])); grind)
      · rcases hk with hk | hk
        · by_cases hrm : (at1 < 0 ∨ at1 > y.len ∨ ((y0.take (8 : Int).toNat).length : Int) > IntKind.i64.wrap (y.len - at1))
          · have kF := ok_ref11_Fits C h y
            rw [tt_eqT hf] at kF
            obtain ⟨⟨hr1, hr2⟩, ⟨hf1, hf2, hf3⟩, hc6⟩ := vfacts78 e78
            obtain ⟨hm1, hm2, hm3, hm4⟩ := small_at hsmh y
            have hr : roomE y at1 (y0.take (8 : Int).toNat).length ≠ 0 := by unfold roomE; rw [if_pos hrm]; decide
            repeat' (conv => whnf
                     first
                       | (with_reducible refine sC (by kernel_rfl) ?_)
                       | ((first | with_reducible refine sB ?_ | with_reducible refine sG0 ?_ | with_reducible refine sG1 ?_ | refine sP (by rfl) ?_); first | refine Or.inl ⟨by first | assumption | (simp only [eqO, Ob.eta, Cl.eta, tt_true, tt_false, decide_eq_true_eq, decide_eq_false_iff_not, beq_iff_eq, beq_eq_false_iff_ne, bne_iff_ne, ne_eq, Bool.not_eq_true, Bool.not_eq_false, Bool.not_eq_eq_eq_not, Bool.not_true, Bool.not_false, Decidable.not_not, Int.not_lt, Int.not_le, gt_iff_lt, ge_iff_le, bne_eq_false_iff_eq, List.length_map]; first | done | assumption | omega), ?_⟩ | refine Or.inr (Or.inl ⟨by first | assumption | (simp only [eqO, Ob.eta, Cl.eta, tt_true, tt_false, decide_eq_true_eq, decide_eq_false_iff_not, beq_iff_eq, beq_eq_false_iff_ne, bne_iff_ne, ne_eq, Bool.not_eq_true, Bool.not_eq_false, Bool.not_eq_eq_eq_not, Bool.not_true, Bool.not_false, Decidable.not_not, Int.not_lt, Int.not_le, gt_iff_lt, ge_iff_le, bne_eq_false_iff_eq, List.length_map]; first | done | assumption | omega), ?_⟩) | (refine Or.inr (Or.inr ⟨fun hsp => ?_, fun hsp => ?_⟩) <;> (try simp only [eqO, Ob.eta, Cl.eta, tt_true, tt_false, decide_eq_true_eq, decide_eq_false_iff_not, beq_iff_eq, beq_eq_false_iff_ne, bne_iff_ne, ne_eq, Bool.not_eq_true, Bool.not_eq_false, Bool.not_eq_eq_eq_not, Bool.not_true, Bool.not_false, Decidable.not_not, Int.not_lt, Int.not_le, gt_iff_lt, ge_iff_le, bne_eq_false_iff_eq, List.length_map] at hsp) <;> try subst hsp))
                       | refine ⟨_, _, kF, ?_⟩
                       | refine ⟨_, _, (by have k := ok_heap_PutBytes_bad C h y hn at1 (s0.take (30 : Int).toNat) (by rw [e6]; decide); rw [e6] at k; exact k), ?_⟩
                       | refine ⟨_, _, (by rw [pub_all (f := encO) (l := (y0.take (8 : Int).toNat)) rfl]; exact ok_heap_PutItems_room C h y hn at1 (y0.take (8 : Int).toNat) e78 hk hr), ?_⟩
                       | refine ⟨_, _, (by have k := ok_law11_none C [] 2 2; rw [none_yes] at k; exact k), ?_⟩
                       | refine ⟨_, _, (by have k := ok_law11_none C [] 22 22; rw [none_yes] at k; exact k), ?_⟩
                       | refine ⟨_, _, (by have k := ok_law11_none C [] 23 23; rw [none_yes] at k; exact k), ?_⟩
                       | refine ⟨_, _, (by have k := ok_law11_none C [] 31 31; rw [none_yes] at k; exact k), ?_⟩
                       | refine sS (index_true (i := a.1) (a := encO o0) (b := encO (objO h w.K w.A w.B w.N)) (y := encO y) hyy (by rfl) (by rfl) (by rfl) (by rfl) (by rfl)) ?_
                       | fail)
            all_goals (conv => whnf)
            all_goals first
              | (refine jh (m2 - 1) (a.1 + 1, true) _ (by omega) ⟨by (try dsimp only); omega, ?_⟩ (by (conv => whnf); first | done | rfl | (simp (disch := omega) only [wrap_succ])); grind)
              | (refine jh (m2 - 1) (a.1 + 1, a.2) _ (by omega) ⟨by (try dsimp only); omega, ?_⟩ (by (conv => whnf); first | done | rfl | (simp (disch := omega) only [wrap_succ])); grind)
          · have kF := ok_ref11_Fits C h y
            rw [tt_eqT hf] at kF
            obtain ⟨⟨hr1, hr2⟩, ⟨hf1, hf2, hf3⟩, hc6⟩ := vfacts78 e78
            obtain ⟨hm1, hm2, hm3, hm4⟩ := small_at hsmh y
            have hr : roomE y at1 (y0.take (8 : Int).toNat).length = 0 := by unfold roomE; rw [if_neg hrm]
            obtain ⟨ha1, ha2, ha3⟩ := room_ok hr (by omega) (by omega)
            have hps : small (putIh h y at1 (y0.take (8 : Int).toNat)) := put_small hsmh ⟨hm1, hm2, by dsimp only; rw [repl_len (by omega)]; exact hm3, hm4⟩
            have kS := ok_ref11_Same C (putIh h y at1 (y0.take (8 : Int).toNat)) (putIh h y at1 (y0.take (8 : Int).toNat)) (small_big hps)
            rw [tt_eqT rfl] at kS
            repeat' (conv => whnf
                     first
                       | (with_reducible refine sC (by kernel_rfl) ?_)
                       | ((first | with_reducible refine sB ?_ | with_reducible refine sG0 ?_ | with_reducible refine sG1 ?_ | refine sP (by rfl) ?_); first | refine Or.inl ⟨by first | assumption | (simp only [eqO, Ob.eta, Cl.eta, tt_true, tt_false, decide_eq_true_eq, decide_eq_false_iff_not, beq_iff_eq, beq_eq_false_iff_ne, bne_iff_ne, ne_eq, Bool.not_eq_true, Bool.not_eq_false, Bool.not_eq_eq_eq_not, Bool.not_true, Bool.not_false, Decidable.not_not, Int.not_lt, Int.not_le, gt_iff_lt, ge_iff_le, bne_eq_false_iff_eq, List.length_map]; first | done | assumption | omega), ?_⟩ | refine Or.inr (Or.inl ⟨by first | assumption | (simp only [eqO, Ob.eta, Cl.eta, tt_true, tt_false, decide_eq_true_eq, decide_eq_false_iff_not, beq_iff_eq, beq_eq_false_iff_ne, bne_iff_ne, ne_eq, Bool.not_eq_true, Bool.not_eq_false, Bool.not_eq_eq_eq_not, Bool.not_true, Bool.not_false, Decidable.not_not, Int.not_lt, Int.not_le, gt_iff_lt, ge_iff_le, bne_eq_false_iff_eq, List.length_map]; first | done | assumption | omega), ?_⟩) | (refine Or.inr (Or.inr ⟨fun hsp => ?_, fun hsp => ?_⟩) <;> (try simp only [eqO, Ob.eta, Cl.eta, tt_true, tt_false, decide_eq_true_eq, decide_eq_false_iff_not, beq_iff_eq, beq_eq_false_iff_ne, bne_iff_ne, ne_eq, Bool.not_eq_true, Bool.not_eq_false, Bool.not_eq_eq_eq_not, Bool.not_true, Bool.not_false, Decidable.not_not, Int.not_lt, Int.not_le, gt_iff_lt, ge_iff_le, bne_eq_false_iff_eq, List.length_map] at hsp) <;> try subst hsp))
                       | refine ⟨_, _, kF, ?_⟩
                       | refine ⟨_, _, (by have k := ok_heap_PutBytes_bad C h y hn at1 (s0.take (30 : Int).toNat) (by rw [e6]; decide); rw [e6] at k; exact k), ?_⟩
                       | refine ⟨_, _, (by rw [pub_all (f := encO) (l := (y0.take (8 : Int).toNat)) rfl]; exact ok_heap_PutItems C h y hsmh hn at1 (y0.take (8 : Int).toNat) e78 hk hr), ?_⟩
                       | refine ⟨_, _, (by rw [pub_all (f := encO) (l := (y0.take (8 : Int).toNat)) rfl]; exact ok_ref11_PutItems C h y hsmh hn at1 (y0.take (8 : Int).toNat) hL e78 hr), ?_⟩
                       | refine ⟨_, _, kS, ?_⟩
                       | refine ⟨_, _, (by have k := ok_law11_none C [] 2 2; rw [none_yes] at k; exact k), ?_⟩
                       | refine ⟨_, _, (by have k := ok_law11_none C [] 22 22; rw [none_yes] at k; exact k), ?_⟩
                       | refine ⟨_, _, (by have k := ok_law11_none C [] 23 23; rw [none_yes] at k; exact k), ?_⟩
                       | refine ⟨_, _, (by have k := ok_law11_none C [] 31 31; rw [none_yes] at k; exact k), ?_⟩
                       | refine sS (index_true (i := a.1) (a := encO o0) (b := encO (objO h w.K w.A w.B w.N)) (y := encO y) hyy (by rfl) (by rfl) (by rfl) (by rfl) (by rfl)) ?_
                       | fail)
            all_goals (conv => whnf)
            all_goals first
              | (refine jh (m2 - 1) (a.1 + 1, true) _ (by omega) ⟨by (try dsimp only); omega, ?_⟩ (by (conv => whnf); first | done | rfl | (simp (disch := omega) only [wrap_succ])); grind)
              | (refine jh (m2 - 1) (a.1 + 1, a.2) _ (by omega) ⟨by (try dsimp only); omega, ?_⟩ (by (conv => whnf); first | done | rfl | (simp (disch := omega) only [wrap_succ])); grind)
        · have kF := ok_ref11_Fits C h y
          rw [tt_eqT hf] at kF
          repeat' (conv => whnf
                   first
                     | (with_reducible refine sC (by kernel_rfl) ?_)
                     | ((first | with_reducible refine sB ?_ | with_reducible refine sG0 ?_ | with_reducible refine sG1 ?_ | refine sP (by rfl) ?_); first | refine Or.inl ⟨by first | assumption | (simp only [eqO, Ob.eta, Cl.eta, tt_true, tt_false, decide_eq_true_eq, decide_eq_false_iff_not, beq_iff_eq, beq_eq_false_iff_ne, bne_iff_ne, ne_eq, Bool.not_eq_true, Bool.not_eq_false, Bool.not_eq_eq_eq_not, Bool.not_true, Bool.not_false, Decidable.not_not, Int.not_lt, Int.not_le, gt_iff_lt, ge_iff_le, bne_eq_false_iff_eq, List.length_map]; first | done | assumption | omega), ?_⟩ | refine Or.inr (Or.inl ⟨by first | assumption | (simp only [eqO, Ob.eta, Cl.eta, tt_true, tt_false, decide_eq_true_eq, decide_eq_false_iff_not, beq_iff_eq, beq_eq_false_iff_ne, bne_iff_ne, ne_eq, Bool.not_eq_true, Bool.not_eq_false, Bool.not_eq_eq_eq_not, Bool.not_true, Bool.not_false, Decidable.not_not, Int.not_lt, Int.not_le, gt_iff_lt, ge_iff_le, bne_eq_false_iff_eq, List.length_map]; first | done | assumption | omega), ?_⟩) | (refine Or.inr (Or.inr ⟨fun hsp => ?_, fun hsp => ?_⟩) <;> (try simp only [eqO, Ob.eta, Cl.eta, tt_true, tt_false, decide_eq_true_eq, decide_eq_false_iff_not, beq_iff_eq, beq_eq_false_iff_ne, bne_iff_ne, ne_eq, Bool.not_eq_true, Bool.not_eq_false, Bool.not_eq_eq_eq_not, Bool.not_true, Bool.not_false, Decidable.not_not, Int.not_lt, Int.not_le, gt_iff_lt, ge_iff_le, bne_eq_false_iff_eq, List.length_map] at hsp) <;> try subst hsp))
                     | refine ⟨_, _, kF, ?_⟩
                     | refine ⟨_, _, (by have k := ok_heap_PutBytes_bad C h y hn at1 (s0.take (30 : Int).toNat) (by rw [e6]; decide); rw [e6] at k; exact k), ?_⟩
                     | refine ⟨_, _, (by rw [pub_all (f := encO) (l := (y0.take (8 : Int).toNat)) rfl]; exact ok_heap_PutItems_packed C h y hn at1 (y0.take (8 : Int).toNat) e78 hk), ?_⟩
                     | refine ⟨_, _, (by have k := ok_law11_none C [] 2 2; rw [none_yes] at k; exact k), ?_⟩
                     | refine ⟨_, _, (by have k := ok_law11_none C [] 22 22; rw [none_yes] at k; exact k), ?_⟩
                     | refine ⟨_, _, (by have k := ok_law11_none C [] 23 23; rw [none_yes] at k; exact k), ?_⟩
                     | refine ⟨_, _, (by have k := ok_law11_none C [] 31 31; rw [none_yes] at k; exact k), ?_⟩
                     | refine sS (index_true (i := a.1) (a := encO o0) (b := encO (objO h w.K w.A w.B w.N)) (y := encO y) hyy (by rfl) (by rfl) (by rfl) (by rfl) (by rfl)) ?_
                     | fail)
          all_goals (conv => whnf)
          all_goals first
            | (refine jh (m2 - 1) (a.1 + 1, true) _ (by omega) ⟨by (try dsimp only); omega, ?_⟩ (by (conv => whnf); first | done | rfl | (simp (disch := omega) only [wrap_succ])); grind)
            | (refine jh (m2 - 1) (a.1 + 1, a.2) _ (by omega) ⟨by (try dsimp only); omega, ?_⟩ (by (conv => whnf); first | done | rfl | (simp (disch := omega) only [wrap_succ])); grind)
      · have kF := ok_ref11_Fits C h y
        rw [tt_eqT hf] at kF
        repeat' (conv => whnf
                 first
                   | (with_reducible refine sC (by kernel_rfl) ?_)
                   | ((first | with_reducible refine sB ?_ | with_reducible refine sG0 ?_ | with_reducible refine sG1 ?_ | refine sP (by rfl) ?_); first | refine Or.inl ⟨by first | assumption | (simp only [eqO, Ob.eta, Cl.eta, tt_true, tt_false, decide_eq_true_eq, decide_eq_false_iff_not, beq_iff_eq, beq_eq_false_iff_ne, bne_iff_ne, ne_eq, Bool.not_eq_true, Bool.not_eq_false, Bool.not_eq_eq_eq_not, Bool.not_true, Bool.not_false, Decidable.not_not, Int.not_lt, Int.not_le, gt_iff_lt, ge_iff_le, bne_eq_false_iff_eq, List.length_map]; first | done | assumption | omega), ?_⟩ | refine Or.inr (Or.inl ⟨by first | assumption | (simp only [eqO, Ob.eta, Cl.eta, tt_true, tt_false, decide_eq_true_eq, decide_eq_false_iff_not, beq_iff_eq, beq_eq_false_iff_ne, bne_iff_ne, ne_eq, Bool.not_eq_true, Bool.not_eq_false, Bool.not_eq_eq_eq_not, Bool.not_true, Bool.not_false, Decidable.not_not, Int.not_lt, Int.not_le, gt_iff_lt, ge_iff_le, bne_eq_false_iff_eq, List.length_map]; first | done | assumption | omega), ?_⟩) | (refine Or.inr (Or.inr ⟨fun hsp => ?_, fun hsp => ?_⟩) <;> (try simp only [eqO, Ob.eta, Cl.eta, tt_true, tt_false, decide_eq_true_eq, decide_eq_false_iff_not, beq_iff_eq, beq_eq_false_iff_ne, bne_iff_ne, ne_eq, Bool.not_eq_true, Bool.not_eq_false, Bool.not_eq_eq_eq_not, Bool.not_true, Bool.not_false, Decidable.not_not, Int.not_lt, Int.not_le, gt_iff_lt, ge_iff_le, bne_eq_false_iff_eq, List.length_map] at hsp) <;> try subst hsp))
                   | refine ⟨_, _, kF, ?_⟩
                   | refine ⟨_, _, (by have k := ok_heap_PutBytes_bad C h y hn at1 (s0.take (30 : Int).toNat) (by rw [e6]; decide); rw [e6] at k; exact k), ?_⟩
                   | refine ⟨_, _, (by rw [pub_all (f := encO) (l := (y0.take (8 : Int).toNat)) rfl]; have k := ok_heap_PutItems_bad C h y hn at1 (y0.take (8 : Int).toNat) (by rw [e78]; decide); rw [e78] at k; exact k), ?_⟩
                   | refine ⟨_, _, (by have k := ok_law11_none C [] 2 2; rw [none_yes] at k; exact k), ?_⟩
                   | refine ⟨_, _, (by have k := ok_law11_none C [] 22 22; rw [none_yes] at k; exact k), ?_⟩
                   | refine ⟨_, _, (by have k := ok_law11_none C [] 23 23; rw [none_yes] at k; exact k), ?_⟩
                   | refine ⟨_, _, (by have k := ok_law11_none C [] 31 31; rw [none_yes] at k; exact k), ?_⟩
                   | refine sS (index_true (i := a.1) (a := encO o0) (b := encO (objO h w.K w.A w.B w.N)) (y := encO y) hyy (by rfl) (by rfl) (by rfl) (by rfl) (by rfl)) ?_
                   | fail)
        all_goals (conv => whnf)
        all_goals first
          | (refine jh (m2 - 1) (a.1 + 1, true) _ (by omega) ⟨by (try dsimp only); omega, ?_⟩ (by (conv => whnf); first | done | rfl | (simp (disch := omega) only [wrap_succ])); grind)
          | (refine jh (m2 - 1) (a.1 + 1, a.2) _ (by omega) ⟨by (try dsimp only); omega, ?_⟩ (by (conv => whnf); first | done | rfl | (simp (disch := omega) only [wrap_succ])); grind)
      · have kF := ok_ref11_Fits C h y
        rw [tt_eqT hf] at kF
        repeat' (conv => whnf
                 first
                   | (with_reducible refine sC (by kernel_rfl) ?_)
                   | ((first | with_reducible refine sB ?_ | with_reducible refine sG0 ?_ | with_reducible refine sG1 ?_ | refine sP (by rfl) ?_); first | refine Or.inl ⟨by first | assumption | (simp only [eqO, Ob.eta, Cl.eta, tt_true, tt_false, decide_eq_true_eq, decide_eq_false_iff_not, beq_iff_eq, beq_eq_false_iff_ne, bne_iff_ne, ne_eq, Bool.not_eq_true, Bool.not_eq_false, Bool.not_eq_eq_eq_not, Bool.not_true, Bool.not_false, Decidable.not_not, Int.not_lt, Int.not_le, gt_iff_lt, ge_iff_le, bne_eq_false_iff_eq, List.length_map]; first | done | assumption | omega), ?_⟩ | refine Or.inr (Or.inl ⟨by first | assumption | (simp only [eqO, Ob.eta, Cl.eta, tt_true, tt_false, decide_eq_true_eq, decide_eq_false_iff_not, beq_iff_eq, beq_eq_false_iff_ne, bne_iff_ne, ne_eq, Bool.not_eq_true, Bool.not_eq_false, Bool.not_eq_eq_eq_not, Bool.not_true, Bool.not_false, Decidable.not_not, Int.not_lt, Int.not_le, gt_iff_lt, ge_iff_le, bne_eq_false_iff_eq, List.length_map]; first | done | assumption | omega), ?_⟩) | (refine Or.inr (Or.inr ⟨fun hsp => ?_, fun hsp => ?_⟩) <;> (try simp only [eqO, Ob.eta, Cl.eta, tt_true, tt_false, decide_eq_true_eq, decide_eq_false_iff_not, beq_iff_eq, beq_eq_false_iff_ne, bne_iff_ne, ne_eq, Bool.not_eq_true, Bool.not_eq_false, Bool.not_eq_eq_eq_not, Bool.not_true, Bool.not_false, Decidable.not_not, Int.not_lt, Int.not_le, gt_iff_lt, ge_iff_le, bne_eq_false_iff_eq, List.length_map] at hsp) <;> try subst hsp))
                   | refine ⟨_, _, kF, ?_⟩
                   | refine ⟨_, _, (by have k := ok_heap_PutBytes_bad C h y hn at1 (s0.take (30 : Int).toNat) (by rw [e6]; decide); rw [e6] at k; exact k), ?_⟩
                   | refine ⟨_, _, (by rw [pub_all (f := encO) (l := (y0.take (8 : Int).toNat)) rfl]; have k := ok_heap_PutItems_bad C h y hn at1 (y0.take (8 : Int).toNat) (by rw [e78]; decide); rw [e78] at k; exact k), ?_⟩
                   | refine ⟨_, _, (by have k := ok_law11_none C [] 2 2; rw [none_yes] at k; exact k), ?_⟩
                   | refine ⟨_, _, (by have k := ok_law11_none C [] 22 22; rw [none_yes] at k; exact k), ?_⟩
                   | refine ⟨_, _, (by have k := ok_law11_none C [] 23 23; rw [none_yes] at k; exact k), ?_⟩
                   | refine ⟨_, _, (by have k := ok_law11_none C [] 31 31; rw [none_yes] at k; exact k), ?_⟩
                   | refine sS (index_true (i := a.1) (a := encO o0) (b := encO (objO h w.K w.A w.B w.N)) (y := encO y) hyy (by rfl) (by rfl) (by rfl) (by rfl) (by rfl)) ?_
                   | fail)
        all_goals (conv => whnf)
        all_goals first
          | (refine jh (m2 - 1) (a.1 + 1, true) _ (by omega) ⟨by (try dsimp only); omega, ?_⟩ (by (conv => whnf); first | done | rfl | (simp (disch := omega) only [wrap_succ])); grind)
          | (refine jh (m2 - 1) (a.1 + 1, a.2) _ (by omega) ⟨by (try dsimp only); omega, ?_⟩ (by (conv => whnf); first | done | rfl | (simp (disch := omega) only [wrap_succ])); grind)
    · repeat' (conv => whnf
               first
                 | (with_reducible refine sC (by kernel_rfl) ?_)
                 | ((first | with_reducible refine sB ?_ | with_reducible refine sG0 ?_ | with_reducible refine sG1 ?_ | refine sP (by rfl) ?_); first | refine Or.inl ⟨by first | assumption | (simp only [eqO, Ob.eta, Cl.eta, tt_true, tt_false, decide_eq_true_eq, decide_eq_false_iff_not, beq_iff_eq, beq_eq_false_iff_ne, bne_iff_ne, ne_eq, Bool.not_eq_true, Bool.not_eq_false, Bool.not_eq_eq_eq_not, Bool.not_true, Bool.not_false, Decidable.not_not, Int.not_lt, Int.not_le, gt_iff_lt, ge_iff_le, bne_eq_false_iff_eq, List.length_map]; first | done | assumption | omega), ?_⟩ | refine Or.inr (Or.inl ⟨by first | assumption | (simp only [eqO, Ob.eta, Cl.eta, tt_true, tt_false, decide_eq_true_eq, decide_eq_false_iff_not, beq_iff_eq, beq_eq_false_iff_ne, bne_iff_ne, ne_eq, Bool.not_eq_true, Bool.not_eq_false, Bool.not_eq_eq_eq_not, Bool.not_true, Bool.not_false, Decidable.not_not, Int.not_lt, Int.not_le, gt_iff_lt, ge_iff_le, bne_eq_false_iff_eq, List.length_map]; first | done | assumption | omega), ?_⟩) | (refine Or.inr (Or.inr ⟨fun hsp => ?_, fun hsp => ?_⟩) <;> (try simp only [eqO, Ob.eta, Cl.eta, tt_true, tt_false, decide_eq_true_eq, decide_eq_false_iff_not, beq_iff_eq, beq_eq_false_iff_ne, bne_iff_ne, ne_eq, Bool.not_eq_true, Bool.not_eq_false, Bool.not_eq_eq_eq_not, Bool.not_true, Bool.not_false, Decidable.not_not, Int.not_lt, Int.not_le, gt_iff_lt, ge_iff_le, bne_eq_false_iff_eq, List.length_map] at hsp) <;> try subst hsp))
                 | fail)
      all_goals (conv => whnf)
      all_goals first
        | (refine ih (m - 1) (c.1 + 1, a.2) _ (by omega) ⟨by (try dsimp only); omega, ?_⟩ (by (conv => whnf); first | done | rfl | (simp (disch := omega) only [wrap_succ])); grind)
  
  · repeat' (conv => whnf
             first
               | (with_reducible refine sC (by kernel_rfl) ?_)
               | ((first | with_reducible refine sB ?_ | with_reducible refine sG0 ?_ | with_reducible refine sG1 ?_ | refine sP (by rfl) ?_); first | refine Or.inl ⟨by first | assumption | (simp only [eqO, Ob.eta, Cl.eta, tt_true, tt_false, decide_eq_true_eq, decide_eq_false_iff_not, beq_iff_eq, beq_eq_false_iff_ne, bne_iff_ne, ne_eq, Bool.not_eq_true, Bool.not_eq_false, Bool.not_eq_eq_eq_not, Bool.not_true, Bool.not_false, Decidable.not_not, Int.not_lt, Int.not_le, gt_iff_lt, ge_iff_le, bne_eq_false_iff_eq, List.length_map]; first | done | assumption | omega), ?_⟩ | refine Or.inr (Or.inl ⟨by first | assumption | (simp only [eqO, Ob.eta, Cl.eta, tt_true, tt_false, decide_eq_true_eq, decide_eq_false_iff_not, beq_iff_eq, beq_eq_false_iff_ne, bne_iff_ne, ne_eq, Bool.not_eq_true, Bool.not_eq_false, Bool.not_eq_eq_eq_not, Bool.not_true, Bool.not_false, Decidable.not_not, Int.not_lt, Int.not_le, gt_iff_lt, ge_iff_le, bne_eq_false_iff_eq, List.length_map]; first | done | assumption | omega), ?_⟩) | (refine Or.inr (Or.inr ⟨fun hsp => ?_, fun hsp => ?_⟩) <;> (try simp only [eqO, Ob.eta, Cl.eta, tt_true, tt_false, decide_eq_true_eq, decide_eq_false_iff_not, beq_iff_eq, beq_eq_false_iff_ne, bne_iff_ne, ne_eq, Bool.not_eq_true, Bool.not_eq_false, Bool.not_eq_eq_eq_not, Bool.not_true, Bool.not_false, Decidable.not_not, Int.not_lt, Int.not_le, gt_iff_lt, ge_iff_le, bne_eq_false_iff_eq, List.length_map] at hsp) <;> try subst hsp))
               | fail)
    all_goals (conv => whnf)
    all_goals (exact PV.le.refl _)
end Go.Ab.Td
