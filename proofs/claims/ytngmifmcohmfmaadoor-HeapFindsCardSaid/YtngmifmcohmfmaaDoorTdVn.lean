/- HeapFinds: the law. Under: nothing. -/
import Derived.Test.YtngmifmcohmfmaaDoorTdVl
import Derived.Test.YtngmifmcohmfmaaDoorTdVg
import Derived.Test.YtngmifmcohmfmaaDoorTdAr4
import Derived.Test.YtngmifmcohmfmaaDoorTdW11
import Derived.Test.YtngmifmcohmfmaaDoorTdRL
import Derived.Test.YtngmifmcohmfmaaDoorTdHa
namespace Go.Ab.Td
open Go Go.Ab
variable {P : Program}
set_option linter.unusedSimpArgs false
attribute [local irreducible] compat
theorem cellR_small {h : List Cl} {c : Cl} (hr : cellR h c) : c.small := by
  rcases hr with ⟨-, h1, h2, h3, h4, -⟩ | ⟨-, h1, h2, -, h4, h5, -⟩ | ⟨-, h1, h2, -, h4, h5, h6, h7, -⟩ | ⟨-, h1, h2, h3, h4, -⟩
  · exact ⟨by omega, by omega, by omega, by omega⟩
  · exact ⟨by omega, by omega, by omega, by rw [h1]; simp⟩
  · exact ⟨by omega, by omega, by omega, by rw [h1]; simp⟩
  · exact ⟨by omega, by omega, by omega, by omega⟩
theorem valid_small {h : List Cl} (hv : validH h) (hl : h.length ≤ 1000000) : small h := ⟨hl, fun c hc => cellR_small (hv.1 c hc)⟩
theorem nC_put {c c' : Cl} {k v : Ob} (hc : nC c) (hk : k.n < 9223372036854775808) (hv : v.n < 9223372036854775808) (hp : putKV c k v = some c') : nC c' := by
  obtain ⟨n1, n2, n3⟩ := hc
  unfold putKV at hp
  split at hp
  · cases hp
    refine ⟨n1, n2, fun o ho => ?_⟩
    rcases List.mem_or_eq_of_mem_set ho with ho | rfl
    · exact n3 o ho
    · exact hv
  · split at hp
    · cases hp
    · cases hp
      refine ⟨n1, fun o ho => ?_, fun o ho => ?_⟩
      · rcases List.mem_append.1 ho with ho | ho
        · exact n2 o ho
        · simp only [List.mem_singleton] at ho; subst ho; exact hk
      · rcases List.mem_append.1 ho with ho | ho
        · exact n3 o ho
        · simp only [List.mem_singleton] at ho; subst ho; exact hv
theorem nC_rem {c : Cl} (hc : nC c) (i : Nat) : nC (remAt c i) :=
  ⟨hc.1, fun o ho => hc.2.1 o (List.mem_of_mem_eraseIdx ho), fun o ho => hc.2.2 o (List.mem_of_mem_eraseIdx ho)⟩
theorem nC_set {h : List Cl} {c : Cl} (hs : ∀ d ∈ h, nC d) (hc : nC c) (j : Nat) : ∀ d ∈ h.set j c, nC d := by
  intro d hd
  rcases List.mem_or_eq_of_mem_set hd with hd | rfl
  · exact hs d hd
  · exact hc
theorem cellAt_set9 {h : List Cl} {o : Ob} {c : Cl} (hl : o.ref.toNat < h.length) : cellAt (h.set o.ref.toNat c) o = c := by
  unfold cellAt
  rw [List.getElem?_set_self hl]
  rfl
theorem v9_of {h : List Cl} {o : Ob} (hf : fits h o) (hk : o.kind = 9) : vErr h o [9] = 0 := by
  unfold vErr
  rw [if_neg (fun x => x hf), if_pos (by rw [hk]; simp)]
theorem vL_of {h : List Cl} {o : Ob} (hf : fits h o) (hk : o.kind = 9) : vErr h o [6, 7, 8, 9, 5] = 0 := by
  unfold vErr
  rw [if_neg (fun x => x hf), if_pos (by rw [hk]; simp)]
theorem kc0 (C : Laid P) {h : List Cl} (hv : validH h) (hl : h.length ≤ 1000000) (hn : ∀ c ∈ h, nC c) : OkC P G n_heap_Check [.sl 7 (List.map encC h)] [] (pI 0) := by
  have k := ok_heap_Check C h (valid_small hv hl) (fun c hc => (hn c hc).objs)
  rw [((chk_cases h).resolve_right (fun hx => hx.1 hv)).2] at k
  exact k


set_option maxHeartbeats 8000000 in
set_option maxRecDepth 100000 in
theorem ok_law11_HeapFinds (C : Laid P) (cells ops dicts : List (List PV)) (hc : ∀ r ∈ cells, WordN r) (w0 w1 w2 w3 : Wd) : OkC P G n_law11_HeapFinds [.agg [.sl 5 cells, .sl 5 ops, .sl 1 dicts], .agg (w0.row ++ (w1.row ++ (w2.row ++ w3.row)))] [] (.bool true) := by
  refine ok_fn C (k_law11_HeapFinds C) rfl ?_
  obtain ⟨h, ht, kh⟩ := kit_heapV C cells ops dicts hc
  have hs := ht.1.small
  have hv := ht.valid
  have hl20 := ht.1.len
  have hnn : ∀ c ∈ h, nC c := fun c hx => clOk.nC (ht.1.ok c hx)
  have kc := kc0 C hv (by omega) hnn
  obtain ⟨t, htn, htf, kt⟩ := wd_obj C ht.1 w0
  obtain ⟨o1, h1n, h1f, k1⟩ := wd_obj C ht.1 w1
  obtain ⟨o2, h2n, h2f, k2⟩ := wd_obj C ht.1 w2
  obtain ⟨v, hvn, hvf, k3⟩ := wd_obj C ht.1 w3
  have kk1 := ok_heap_Key C h o1 h1n
  have kk2 := ok_heap_Key C h o2 h2n
  have g1 := key_good h1n h1f
  have g2 := key_good h2n h2f
  obtain ⟨⟨k, e1⟩, hk1⟩ : ∃ p, hKey h o1 = p := ⟨_, rfl⟩
  obtain ⟨⟨l, e2⟩, hk2⟩ : ∃ p, hKey h o2 = p := ⟨_, rfl⟩
  rw [hk1] at kk1 g1
  rw [hk2] at kk2 g2
  dsimp only at kk1 kk2 g1 g2
  clear hk1 hk2
  obtain ⟨wK, wA, wB, wN, wS, wa1, wa2, wa3⟩ := w0
  obtain ⟨xK, xA, xB, xN, xS, xa1, xa2, xa3⟩ := w1
  obtain ⟨yK, yA, yB, yN, yS, ya1, ya2, ya3⟩ := w2
  obtain ⟨zK, zA, zB, zN, zS, za1, za2, za3⟩ := w3
  by_cases hk9 : t.kind = 9
  · by_cases he1 : e1 = 0
    · by_cases he2 : e2 = 0
      · subst he1 he2
        obtain ⟨gk, gkf, gkn⟩ := g1 rfl
        obtain ⟨c, hcc, ec, hck, -⟩ := fits_at9 htf hk9
        have hcr := hv.1 c (List.mem_of_getElem? hcc)
        have hlt := (List.getElem?_eq_some_iff.1 hcc).1
        have e9 := v9_of htf hk9
        have hl' := vL_of htf hk9
        have kF1 := ok_heap_Find C h t htn l hs e9
        rw [ec] at kF1
        have kL1 := ok_heap_Len C h t htn hl'
        rw [show lenO h t = (c.keys.length : Int) by unfold lenO; rw [if_pos hk9, ec]] at kL1
        have hnc := hnn c (List.mem_of_getElem? hcc)
        have hcl := (dict_of hcr hck).2.2.2.2.1
        have hcl2 := (dict_of hcr hck).2.2.2.2.2.2.1
        cases hp : putKV c k v with
        | none =>
          have kS := ok_heap_Store_full C h t htn k v hs e9 (by rw [ec]; exact hp)
          have kF2 := ok_heap_Find C h t htn k hs e9
          rw [ec, look_none hcr hck hp] at kF2
          dsimp only [Option.getD_none, Option.isSome_none] at kF2
          generalize (look c l).getD ob0 = od at kF1
          generalize (look c l).isSome = ws at kF1
          repeat' (conv => whnf
                   first
                     | (with_reducible refine sC (by kernel_rfl) ?_)
                     | ((first | with_reducible refine sB ?_ | with_reducible refine sG0 ?_ | with_reducible refine sG1 ?_ | refine sP (by rfl) ?_); first | refine oT ?_ | refine oF ?_ | (refine Or.inr (Or.inr ⟨fun hsp => ?_, fun hsp => ?_⟩) <;> (try simp only [eqO, Ob.eta, Cl.eta, tt_true, tt_false, decide_eq_true_eq, decide_eq_false_iff_not, beq_iff_eq, beq_eq_false_iff_ne, bne_iff_ne, ne_eq, Bool.not_eq_true, Bool.not_eq_false, Bool.not_eq_eq_eq_not, Bool.not_true, Bool.not_false, Decidable.not_not, Int.not_lt, Int.not_le, gt_iff_lt, ge_iff_le, bne_eq_false_iff_eq, List.length_map] at hsp) <;> try subst hsp))
                     | refine ⟨_, _, TdW11.ok C, ?_⟩
                     | refine ⟨_, _, kh, ?_⟩
                     | refine ⟨_, _, kc, ?_⟩
                     | refine ⟨_, _, kt, ?_⟩
                     | refine ⟨_, _, k1, ?_⟩
                     | refine ⟨_, _, k2, ?_⟩
                     | refine ⟨_, _, k3, ?_⟩
                     | refine ⟨_, _, kk1, ?_⟩
                     | refine ⟨_, _, kk2, ?_⟩
                     | refine ⟨_, _, kF1, ?_⟩
                     | refine ⟨_, _, kS, ?_⟩
                     | refine ⟨_, _, kL1, ?_⟩
                     | refine ⟨_, _, kF2, ?_⟩
                     | fail)
          all_goals (conv => whnf)
          all_goals (first | exact PV.le.refl _ | (exfalso; omega))
        | some c2 =>
          obtain ⟨r2, k32, hsz, lk, ll, lc, mk⟩ := put_valid hcr hck gk gkf hvf hp
          have hv2 : validH (h.set t.ref.toNat c2) := valid_set hv hcc (by omega) (.inl k32) hsz r2
          have hs2 := valid_small hv2 (by rw [List.length_set]; omega)
          have hn2 := nC_set hnn (nC_put hnc gkn hvn hp) t.ref.toNat
          have kc2 := kc0 C hv2 (by rw [List.length_set]; omega) hn2
          have htf2 : fits (h.set t.ref.toNat c2) t := fits_set hcc (by omega) (.inl k32) htf
          have ec2 : cellAt (h.set t.ref.toNat c2) t = c2 := cellAt_set9 hlt
          have e92 := v9_of htf2 hk9
          have hc2 : (h.set t.ref.toNat c2)[t.ref.toNat]? = some c2 := List.getElem?_set_self hlt
          have r22 := hv2.1 c2 (List.mem_of_getElem? hc2)
          obtain ⟨i, hi, hik, hiv, rr, lr⟩ := rem_valid r22 k32 mk
          have hv3 : validH ((h.set t.ref.toNat c2).set t.ref.toNat (remAt c2 i)) := valid_set (c' := remAt c2 i) hv2 hc2 rfl (.inl k32) rfl rr
          have hs3 := valid_small hv3 (by rw [List.length_set, List.length_set]; omega)
          have kc3 := kc0 C hv3 (by rw [List.length_set, List.length_set]; omega) (nC_set hn2 (nC_rem (nC_put hnc gkn hvn hp) i) t.ref.toNat)
          have htf3 : fits ((h.set t.ref.toNat c2).set t.ref.toNat (remAt c2 i)) t := fits_set (c' := remAt c2 i) hc2 rfl (.inl k32) htf2
          have ec3 : cellAt ((h.set t.ref.toNat c2).set t.ref.toNat (remAt c2 i)) t = remAt c2 i := cellAt_set9 (by rw [List.length_set]; exact hlt)
          have kS := ok_heap_Store C h t htn k v c2 hs e9 (by rw [ec]; exact hp)
          have kF2 := ok_heap_Find C (h.set t.ref.toNat c2) t htn k hs2 e92
          rw [ec2, lk] at kF2
          dsimp only [Option.getD_some, Option.isSome_some] at kF2
          have kR := pg C (ok_heap_Remove_gp C (h.set t.ref.toNat c2) t k hs2 htn e92 i (by rw [ec2]; exact hi) (by rw [ec2]; exact hik) (by rw [ec2]; exact hiv))
          rw [ec2] at kR
          have kF4 := ok_heap_Find C ((h.set t.ref.toNat c2).set t.ref.toNat (remAt c2 i)) t htn k hs3 (v9_of htf3 hk9)
          rw [ec3, lr] at kF4
          dsimp only [Option.getD_none, Option.isSome_none] at kF4
          have kL2 := ok_heap_Len C (h.set t.ref.toNat c2) t htn (vL_of htf2 hk9)
          rw [show lenO (h.set t.ref.toNat c2) t = (c2.keys.length : Int) by unfold lenO; rw [if_pos hk9, ec2]] at kL2
          have kF3 := ok_heap_Find C (h.set t.ref.toNat c2) t htn l hs2 e92
          rw [ec2] at kF3
          by_cases hkl : l = k
          · subst hkl
            rw [lk] at kF3
            dsimp only [Option.getD_some, Option.isSome_some] at kF3
            generalize (look c l).getD ob0 = od at kF1
            generalize (look c l).isSome = ws at kF1
            have wrk : IntKind.i64.wrap ((c.keys.length : Int) + 1) = (c.keys.length : Int) + 1 := wrap_small (by omega) (by omega)
            rcases lc with lc | lc
            · rw [lc] at kL2
              repeat' (conv => whnf
                       first
                         | (with_reducible refine sC (by kernel_rfl) ?_)
                         | ((first | with_reducible refine sB ?_ | with_reducible refine sG0 ?_ | with_reducible refine sG1 ?_ | refine sP (by rfl) ?_); first | refine Or.inl ⟨by first | assumption | (simp only [eqO, Ob.eta, Cl.eta, tt_true, tt_false, decide_eq_true_eq, decide_eq_false_iff_not, beq_iff_eq, beq_eq_false_iff_ne, bne_iff_ne, ne_eq, Bool.not_eq_true, Bool.not_eq_false, Bool.not_eq_eq_eq_not, Bool.not_true, Bool.not_false, Decidable.not_not, Int.not_lt, Int.not_le, gt_iff_lt, ge_iff_le, bne_eq_false_iff_eq, List.length_map, wrk]; first | done | assumption | omega), ?_⟩ | refine Or.inr (Or.inl ⟨by first | assumption | (simp only [eqO, Ob.eta, Cl.eta, tt_true, tt_false, decide_eq_true_eq, decide_eq_false_iff_not, beq_iff_eq, beq_eq_false_iff_ne, bne_iff_ne, ne_eq, Bool.not_eq_true, Bool.not_eq_false, Bool.not_eq_eq_eq_not, Bool.not_true, Bool.not_false, Decidable.not_not, Int.not_lt, Int.not_le, gt_iff_lt, ge_iff_le, bne_eq_false_iff_eq, List.length_map, wrk]; first | done | assumption | omega), ?_⟩) | (refine Or.inr (Or.inr ⟨fun hsp => ?_, fun hsp => ?_⟩) <;> (try simp only [eqO, Ob.eta, Cl.eta, tt_true, tt_false, decide_eq_true_eq, decide_eq_false_iff_not, beq_iff_eq, beq_eq_false_iff_ne, bne_iff_ne, ne_eq, Bool.not_eq_true, Bool.not_eq_false, Bool.not_eq_eq_eq_not, Bool.not_true, Bool.not_false, Decidable.not_not, Int.not_lt, Int.not_le, gt_iff_lt, ge_iff_le, bne_eq_false_iff_eq, List.length_map, wrk] at hsp) <;> try subst hsp))
                         | refine ⟨_, _, TdW11.ok C, ?_⟩
                         | refine ⟨_, _, kh, ?_⟩
                         | refine ⟨_, _, kc, ?_⟩
                         | refine ⟨_, _, kt, ?_⟩
                         | refine ⟨_, _, k1, ?_⟩
                         | refine ⟨_, _, k2, ?_⟩
                         | refine ⟨_, _, k3, ?_⟩
                         | refine ⟨_, _, kk1, ?_⟩
                         | refine ⟨_, _, kk2, ?_⟩
                         | refine ⟨_, _, kF1, ?_⟩
                         | refine ⟨_, _, kS, ?_⟩
                         | refine ⟨_, _, kL1, ?_⟩
                         | refine ⟨_, _, kF2, ?_⟩
                         | refine ⟨_, _, kF3, ?_⟩
                         | refine ⟨_, _, kR, ?_⟩
                         | refine ⟨_, _, kF4, ?_⟩
                         | refine ⟨_, _, kL2, ?_⟩
                         | refine ⟨_, _, kc2, ?_⟩
                         | refine ⟨_, _, kc3, ?_⟩
                         | fail)
              all_goals (conv => whnf)
              all_goals (first | exact PV.le.refl _ | (exfalso; omega) | (refine le_of_eq ?_; simp) | (refine le_of_eq ?_; congr 1; simp only [eqO, Ob.eta]; grind) | (exfalso; grind))
            · rw [show (c2.keys.length : Int) = (c.keys.length : Int) + 1 by omega] at kL2
              repeat' (conv => whnf
                       first
                         | (with_reducible refine sC (by kernel_rfl) ?_)
                         | ((first | with_reducible refine sB ?_ | with_reducible refine sG0 ?_ | with_reducible refine sG1 ?_ | refine sP (by rfl) ?_); first | refine Or.inl ⟨by first | assumption | (simp only [eqO, Ob.eta, Cl.eta, tt_true, tt_false, decide_eq_true_eq, decide_eq_false_iff_not, beq_iff_eq, beq_eq_false_iff_ne, bne_iff_ne, ne_eq, Bool.not_eq_true, Bool.not_eq_false, Bool.not_eq_eq_eq_not, Bool.not_true, Bool.not_false, Decidable.not_not, Int.not_lt, Int.not_le, gt_iff_lt, ge_iff_le, bne_eq_false_iff_eq, List.length_map, wrk]; first | done | assumption | omega), ?_⟩ | refine Or.inr (Or.inl ⟨by first | assumption | (simp only [eqO, Ob.eta, Cl.eta, tt_true, tt_false, decide_eq_true_eq, decide_eq_false_iff_not, beq_iff_eq, beq_eq_false_iff_ne, bne_iff_ne, ne_eq, Bool.not_eq_true, Bool.not_eq_false, Bool.not_eq_eq_eq_not, Bool.not_true, Bool.not_false, Decidable.not_not, Int.not_lt, Int.not_le, gt_iff_lt, ge_iff_le, bne_eq_false_iff_eq, List.length_map, wrk]; first | done | assumption | omega), ?_⟩) | (refine Or.inr (Or.inr ⟨fun hsp => ?_, fun hsp => ?_⟩) <;> (try simp only [eqO, Ob.eta, Cl.eta, tt_true, tt_false, decide_eq_true_eq, decide_eq_false_iff_not, beq_iff_eq, beq_eq_false_iff_ne, bne_iff_ne, ne_eq, Bool.not_eq_true, Bool.not_eq_false, Bool.not_eq_eq_eq_not, Bool.not_true, Bool.not_false, Decidable.not_not, Int.not_lt, Int.not_le, gt_iff_lt, ge_iff_le, bne_eq_false_iff_eq, List.length_map, wrk] at hsp) <;> try subst hsp))
                         | refine ⟨_, _, TdW11.ok C, ?_⟩
                         | refine ⟨_, _, kh, ?_⟩
                         | refine ⟨_, _, kc, ?_⟩
                         | refine ⟨_, _, kt, ?_⟩
                         | refine ⟨_, _, k1, ?_⟩
                         | refine ⟨_, _, k2, ?_⟩
                         | refine ⟨_, _, k3, ?_⟩
                         | refine ⟨_, _, kk1, ?_⟩
                         | refine ⟨_, _, kk2, ?_⟩
                         | refine ⟨_, _, kF1, ?_⟩
                         | refine ⟨_, _, kS, ?_⟩
                         | refine ⟨_, _, kL1, ?_⟩
                         | refine ⟨_, _, kF2, ?_⟩
                         | refine ⟨_, _, kF3, ?_⟩
                         | refine ⟨_, _, kR, ?_⟩
                         | refine ⟨_, _, kF4, ?_⟩
                         | refine ⟨_, _, kL2, ?_⟩
                         | refine ⟨_, _, kc2, ?_⟩
                         | refine ⟨_, _, kc3, ?_⟩
                         | fail)
              all_goals (conv => whnf)
              all_goals (first | exact PV.le.refl _ | (exfalso; omega) | (refine le_of_eq ?_; simp) | (refine le_of_eq ?_; congr 1; simp only [eqO, Ob.eta]; grind) | (exfalso; grind))
          · rw [ll l hkl] at kF3
            generalize (look c l).getD ob0 = od at kF1 kF3
            generalize (look c l).isSome = ws at kF1 kF3
            have wrk : IntKind.i64.wrap ((c.keys.length : Int) + 1) = (c.keys.length : Int) + 1 := wrap_small (by omega) (by omega)
            rcases lc with lc | lc
            · rw [lc] at kL2
              repeat' (conv => whnf
                       first
                         | (with_reducible refine sC (by kernel_rfl) ?_)
                         | ((first | with_reducible refine sB ?_ | with_reducible refine sG0 ?_ | with_reducible refine sG1 ?_ | refine sP (by rfl) ?_); first | refine Or.inl ⟨by first | assumption | (simp only [eqO, Ob.eta, Cl.eta, tt_true, tt_false, decide_eq_true_eq, decide_eq_false_iff_not, beq_iff_eq, beq_eq_false_iff_ne, bne_iff_ne, ne_eq, Bool.not_eq_true, Bool.not_eq_false, Bool.not_eq_eq_eq_not, Bool.not_true, Bool.not_false, Decidable.not_not, Int.not_lt, Int.not_le, gt_iff_lt, ge_iff_le, bne_eq_false_iff_eq, List.length_map, wrk]; first | done | assumption | omega), ?_⟩ | refine Or.inr (Or.inl ⟨by first | assumption | (simp only [eqO, Ob.eta, Cl.eta, tt_true, tt_false, decide_eq_true_eq, decide_eq_false_iff_not, beq_iff_eq, beq_eq_false_iff_ne, bne_iff_ne, ne_eq, Bool.not_eq_true, Bool.not_eq_false, Bool.not_eq_eq_eq_not, Bool.not_true, Bool.not_false, Decidable.not_not, Int.not_lt, Int.not_le, gt_iff_lt, ge_iff_le, bne_eq_false_iff_eq, List.length_map, wrk]; first | done | assumption | omega), ?_⟩) | (refine Or.inr (Or.inr ⟨fun hsp => ?_, fun hsp => ?_⟩) <;> (try simp only [eqO, Ob.eta, Cl.eta, tt_true, tt_false, decide_eq_true_eq, decide_eq_false_iff_not, beq_iff_eq, beq_eq_false_iff_ne, bne_iff_ne, ne_eq, Bool.not_eq_true, Bool.not_eq_false, Bool.not_eq_eq_eq_not, Bool.not_true, Bool.not_false, Decidable.not_not, Int.not_lt, Int.not_le, gt_iff_lt, ge_iff_le, bne_eq_false_iff_eq, List.length_map, wrk] at hsp) <;> try subst hsp))
                         | refine ⟨_, _, TdW11.ok C, ?_⟩
                         | refine ⟨_, _, kh, ?_⟩
                         | refine ⟨_, _, kc, ?_⟩
                         | refine ⟨_, _, kt, ?_⟩
                         | refine ⟨_, _, k1, ?_⟩
                         | refine ⟨_, _, k2, ?_⟩
                         | refine ⟨_, _, k3, ?_⟩
                         | refine ⟨_, _, kk1, ?_⟩
                         | refine ⟨_, _, kk2, ?_⟩
                         | refine ⟨_, _, kF1, ?_⟩
                         | refine ⟨_, _, kS, ?_⟩
                         | refine ⟨_, _, kL1, ?_⟩
                         | refine ⟨_, _, kF2, ?_⟩
                         | refine ⟨_, _, kF3, ?_⟩
                         | refine ⟨_, _, kR, ?_⟩
                         | refine ⟨_, _, kF4, ?_⟩
                         | refine ⟨_, _, kL2, ?_⟩
                         | refine ⟨_, _, kc2, ?_⟩
                         | refine ⟨_, _, kc3, ?_⟩
                         | fail)
              all_goals (conv => whnf)
              all_goals (first | exact PV.le.refl _ | (exfalso; omega) | (refine le_of_eq ?_; simp) | (refine le_of_eq ?_; congr 1; simp only [eqO, Ob.eta]; grind) | (exfalso; grind))
            · rw [show (c2.keys.length : Int) = (c.keys.length : Int) + 1 by omega] at kL2
              repeat' (conv => whnf
                       first
                         | (with_reducible refine sC (by kernel_rfl) ?_)
                         | ((first | with_reducible refine sB ?_ | with_reducible refine sG0 ?_ | with_reducible refine sG1 ?_ | refine sP (by rfl) ?_); first | refine Or.inl ⟨by first | assumption | (simp only [eqO, Ob.eta, Cl.eta, tt_true, tt_false, decide_eq_true_eq, decide_eq_false_iff_not, beq_iff_eq, beq_eq_false_iff_ne, bne_iff_ne, ne_eq, Bool.not_eq_true, Bool.not_eq_false, Bool.not_eq_eq_eq_not, Bool.not_true, Bool.not_false, Decidable.not_not, Int.not_lt, Int.not_le, gt_iff_lt, ge_iff_le, bne_eq_false_iff_eq, List.length_map, wrk]; first | done | assumption | omega), ?_⟩ | refine Or.inr (Or.inl ⟨by first | assumption | (simp only [eqO, Ob.eta, Cl.eta, tt_true, tt_false, decide_eq_true_eq, decide_eq_false_iff_not, beq_iff_eq, beq_eq_false_iff_ne, bne_iff_ne, ne_eq, Bool.not_eq_true, Bool.not_eq_false, Bool.not_eq_eq_eq_not, Bool.not_true, Bool.not_false, Decidable.not_not, Int.not_lt, Int.not_le, gt_iff_lt, ge_iff_le, bne_eq_false_iff_eq, List.length_map, wrk]; first | done | assumption | omega), ?_⟩) | (refine Or.inr (Or.inr ⟨fun hsp => ?_, fun hsp => ?_⟩) <;> (try simp only [eqO, Ob.eta, Cl.eta, tt_true, tt_false, decide_eq_true_eq, decide_eq_false_iff_not, beq_iff_eq, beq_eq_false_iff_ne, bne_iff_ne, ne_eq, Bool.not_eq_true, Bool.not_eq_false, Bool.not_eq_eq_eq_not, Bool.not_true, Bool.not_false, Decidable.not_not, Int.not_lt, Int.not_le, gt_iff_lt, ge_iff_le, bne_eq_false_iff_eq, List.length_map, wrk] at hsp) <;> try subst hsp))
                         | refine ⟨_, _, TdW11.ok C, ?_⟩
                         | refine ⟨_, _, kh, ?_⟩
                         | refine ⟨_, _, kc, ?_⟩
                         | refine ⟨_, _, kt, ?_⟩
                         | refine ⟨_, _, k1, ?_⟩
                         | refine ⟨_, _, k2, ?_⟩
                         | refine ⟨_, _, k3, ?_⟩
                         | refine ⟨_, _, kk1, ?_⟩
                         | refine ⟨_, _, kk2, ?_⟩
                         | refine ⟨_, _, kF1, ?_⟩
                         | refine ⟨_, _, kS, ?_⟩
                         | refine ⟨_, _, kL1, ?_⟩
                         | refine ⟨_, _, kF2, ?_⟩
                         | refine ⟨_, _, kF3, ?_⟩
                         | refine ⟨_, _, kR, ?_⟩
                         | refine ⟨_, _, kF4, ?_⟩
                         | refine ⟨_, _, kL2, ?_⟩
                         | refine ⟨_, _, kc2, ?_⟩
                         | refine ⟨_, _, kc3, ?_⟩
                         | fail)
              all_goals (conv => whnf)
              all_goals (first | exact PV.le.refl _ | (exfalso; omega) | (refine le_of_eq ?_; simp) | (refine le_of_eq ?_; congr 1; simp only [eqO, Ob.eta]; grind) | (exfalso; grind))
      · repeat' (conv => whnf
                 first
                   | (with_reducible refine sC (by kernel_rfl) ?_)
                   | ((first | with_reducible refine sB ?_ | with_reducible refine sG0 ?_ | with_reducible refine sG1 ?_ | refine sP (by rfl) ?_); first | refine oT ?_ | refine oF ?_ | (refine Or.inr (Or.inr ⟨fun hsp => ?_, fun hsp => ?_⟩) <;> (try simp only [eqO, Ob.eta, Cl.eta, tt_true, tt_false, decide_eq_true_eq, decide_eq_false_iff_not, beq_iff_eq, beq_eq_false_iff_ne, bne_iff_ne, ne_eq, Bool.not_eq_true, Bool.not_eq_false, Bool.not_eq_eq_eq_not, Bool.not_true, Bool.not_false, Decidable.not_not, Int.not_lt, Int.not_le, gt_iff_lt, ge_iff_le, bne_eq_false_iff_eq, List.length_map] at hsp) <;> try subst hsp))
                   | refine ⟨_, _, TdW11.ok C, ?_⟩
                   | refine ⟨_, _, kh, ?_⟩
                   | refine ⟨_, _, kc, ?_⟩
                   | refine ⟨_, _, kt, ?_⟩
                   | refine ⟨_, _, k1, ?_⟩
                   | refine ⟨_, _, k2, ?_⟩
                   | refine ⟨_, _, k3, ?_⟩
                   | refine ⟨_, _, kk1, ?_⟩
                   | refine ⟨_, _, kk2, ?_⟩
                   | fail)
        all_goals (conv => whnf)
        all_goals (first | exact PV.le.refl _ | (exfalso; omega))
    · repeat' (conv => whnf
               first
                 | (with_reducible refine sC (by kernel_rfl) ?_)
                 | ((first | with_reducible refine sB ?_ | with_reducible refine sG0 ?_ | with_reducible refine sG1 ?_ | refine sP (by rfl) ?_); first | refine oT ?_ | refine oF ?_ | (refine Or.inr (Or.inr ⟨fun hsp => ?_, fun hsp => ?_⟩) <;> (try simp only [eqO, Ob.eta, Cl.eta, tt_true, tt_false, decide_eq_true_eq, decide_eq_false_iff_not, beq_iff_eq, beq_eq_false_iff_ne, bne_iff_ne, ne_eq, Bool.not_eq_true, Bool.not_eq_false, Bool.not_eq_eq_eq_not, Bool.not_true, Bool.not_false, Decidable.not_not, Int.not_lt, Int.not_le, gt_iff_lt, ge_iff_le, bne_eq_false_iff_eq, List.length_map] at hsp) <;> try subst hsp))
                 | refine ⟨_, _, TdW11.ok C, ?_⟩
                 | refine ⟨_, _, kh, ?_⟩
                 | refine ⟨_, _, kc, ?_⟩
                 | refine ⟨_, _, kt, ?_⟩
                 | refine ⟨_, _, k1, ?_⟩
                 | refine ⟨_, _, k2, ?_⟩
                 | refine ⟨_, _, k3, ?_⟩
                 | refine ⟨_, _, kk1, ?_⟩
                 | refine ⟨_, _, kk2, ?_⟩
                 | fail)
      all_goals (conv => whnf)
      all_goals (first | exact PV.le.refl _ | (exfalso; omega))
  · repeat' (conv => whnf
             first
               | (with_reducible refine sC (by kernel_rfl) ?_)
               | ((first | with_reducible refine sB ?_ | with_reducible refine sG0 ?_ | with_reducible refine sG1 ?_ | refine sP (by rfl) ?_); first | refine oT ?_ | refine oF ?_ | (refine Or.inr (Or.inr ⟨fun hsp => ?_, fun hsp => ?_⟩) <;> (try simp only [eqO, Ob.eta, Cl.eta, tt_true, tt_false, decide_eq_true_eq, decide_eq_false_iff_not, beq_iff_eq, beq_eq_false_iff_ne, bne_iff_ne, ne_eq, Bool.not_eq_true, Bool.not_eq_false, Bool.not_eq_eq_eq_not, Bool.not_true, Bool.not_false, Decidable.not_not, Int.not_lt, Int.not_le, gt_iff_lt, ge_iff_le, bne_eq_false_iff_eq, List.length_map] at hsp) <;> try subst hsp))
               | refine ⟨_, _, TdW11.ok C, ?_⟩
               | refine ⟨_, _, kh, ?_⟩
               | refine ⟨_, _, kc, ?_⟩
               | refine ⟨_, _, kt, ?_⟩
               | refine ⟨_, _, k1, ?_⟩
               | refine ⟨_, _, k2, ?_⟩
               | refine ⟨_, _, k3, ?_⟩
               | refine ⟨_, _, kk1, ?_⟩
               | refine ⟨_, _, kk2, ?_⟩
               | fail)
    all_goals (conv => whnf)
    all_goals (first | exact PV.le.refl _ | (exfalso; omega))
end Go.Ab.Td
