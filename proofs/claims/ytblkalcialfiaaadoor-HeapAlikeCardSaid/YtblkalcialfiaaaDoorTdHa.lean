/- HeapAlike: the law. Under: nothing. -/
import Derived.Test.YtblkalcialfiaaaDoorTdFo
import Derived.Test.YtblkalcialfiaaaDoorTdEr
import Derived.Test.YtblkalcialfiaaaDoorTdAk
import Derived.Test.YtblkalcialfiaaaDoorTdW11
import Derived.Test.YtblkalcialfiaaaDoorAbGl
namespace Go.Ab.Td
open Go Go.Ab
variable {P : Program}
set_option linter.unusedSimpArgs false
attribute [local irreducible] compat
theorem kit_heapT (C : Laid P) (cells ops dicts : List (List PV)) (hc : ∀ r ∈ cells, WordR r) : ∃ h, HeapT h ∧ OkC P G n_ref11_Draft_Heap [.agg [.sl 5 cells, .sl 5 ops, .sl 1 dicts]] [] (.sl 7 (List.map encC h)) := by
  obtain ⟨H, h1, h2⟩ := kit_heap C cells ops dicts hc
  obtain ⟨t, e, _, ht⟩ := heapT h1
  exact ⟨t, ht, okc_res h2 (le_sl e)⟩
theorem ite_n {p : Prop} [Decidable p] {a b : Ob} (h1 : a.n < 9223372036854775808) (h2 : b.n < 9223372036854775808) : (if p then a else b).n < 9223372036854775808 := by
  by_cases hp : p
  · rw [if_pos hp]; exact h1
  · rw [if_neg hp]; exact h2
theorem part_n (h : List Cl) (kd cl A B N : Int) (hA : 0 ≤ A ∧ A < 256) : (partO h kd cl A B N).n < 9223372036854775808 := by
  unfold partO
  refine ite_n (by show A < _; omega) (ite_n (by show (0 : Int) < _; omega) ?_)
  dsimp only
  exact ite_n (by show (0 : Int) < _; omega) (by show (0 : Int) < _; omega)
theorem obj_n (h : List Cl) (K A B N : Int) (hA : 0 ≤ A ∧ A < 256) (hN : -2147483648 ≤ N ∧ N ≤ 2147483647) : (objO h K A B N).n < 9223372036854775808 := by
  have z : (0 : Int) < 9223372036854775808 := by decide
  have r2 : A.tmod 2 < 2 := Int.tmod_lt_of_pos _ (by decide)
  have r10 : N.tmod 10 < 10 := Int.tmod_lt_of_pos _ (by decide)
  have r20 : N.tmod 1048576 < 1048576 := Int.tmod_lt_of_pos _ (by decide)
  have hp := fun kd cl => part_n h kd cl A B N hA
  unfold objO
  exact ite_n z (ite_n z (ite_n (by dsimp only; omega) (ite_n (by dsimp only; omega) (ite_n (by dsimp only; omega) (ite_n (by dsimp only; omega) (ite_n (by dsimp only; omega) (ite_n z (ite_n (hp _ _) (ite_n (hp _ _) (ite_n (hp _ _) (ite_n (hp _ _) (ite_n z (hp _ _)))))))))))))
theorem wd_obj (C : Laid P) {h : List Cl} (t : HeapT h) (w : Wd) : ∃ o : Ob, o.n < 9223372036854775808 ∧ fits h o ∧ OkC P G n_ref11_Word_Obj [.agg w.row, .sl 7 (List.map encC h)] [] (.agg (encO o)) :=
  ⟨objO h w.K w.A w.B w.N, obj_n h _ _ _ _ w.hA w.hN, fits_obj t w.K w.A w.B w.N w.hA w.hB w.hN, ok_ref11_Word_Obj C h t w.K w.A w.B w.N w.S w.hA w.hB w.hN⟩
theorem fits_exec {h : List Cl} {o : Ob} (hf : fits h o) (e : Bool) : fits h { o with exec := e } := hf


set_option maxHeartbeats 4000000 in
set_option maxRecDepth 100000 in
theorem ok_law11_HeapAlike (C : Laid P) (cells ops dicts : List (List PV)) (hc : ∀ r ∈ cells, WordR r) (a b c : Wd) : OkC P G n_law11_HeapAlike [.agg [.sl 5 cells, .sl 5 ops, .sl 1 dicts], .agg (a.row ++ (b.row ++ c.row))] [] (.bool true) := by
  refine ok_fn C (k_law11_HeapAlike C) rfl ?_
  obtain ⟨h, ht, kh⟩ := kit_heapT C cells ops dicts hc
  obtain ⟨oa, na, fa, ka⟩ := wd_obj C ht a
  obtain ⟨ob, nb, fb, kb⟩ := wd_obj C ht b
  obtain ⟨oc, nc, fc, kc⟩ := wd_obj C ht c
  have e1 := eqv_refl fa
  have e2 := eqv_exec (!oa.exec) fa (fits_exec fa _)
  have e3 : eqv h oa ob = eqv h ob oa := eqv_symm
  have e4 := @eqv_trans h oa ob oc
  have e5 := @key_eqv h oa ob fa fb
  obtain ⟨aK, aA, aB, aN, aS, a1, a2, a3⟩ := a
  obtain ⟨bK, bA, bB, bN, bS, b1, b2, b3⟩ := b
  obtain ⟨cK, cA, cB, cN, cS, c1, c2, c3⟩ := c
  obtain ⟨ak, ae, an, as, ar, af, al⟩ := oa
  obtain ⟨bk, be, bn, bs, br, bf, bl⟩ := ob
  obtain ⟨ck, ce, cn, cs, cr, cf, cl⟩ := oc
  repeat' (conv => whnf
           first
             | (with_reducible refine sC (by kernel_rfl) ?_)
             | ((first | with_reducible refine sB ?_ | with_reducible refine sG0 ?_ | with_reducible refine sG1 ?_ | refine sP (by rfl) ?_); first | refine Or.inl ⟨by first | assumption | (simp only [eqO, Ob.eta, Cl.eta, tt_true, tt_false, decide_eq_true_eq, decide_eq_false_iff_not, beq_iff_eq, beq_eq_false_iff_ne, bne_iff_ne, ne_eq, Bool.not_eq_true, Bool.not_eq_false, Bool.not_eq_eq_eq_not, Bool.not_true, Bool.not_false, Decidable.not_not, Int.not_lt, Int.not_le, gt_iff_lt, ge_iff_le, bne_eq_false_iff_eq]; first | done | assumption | omega), ?_⟩ | refine Or.inr (Or.inl ⟨by first | assumption | (simp only [eqO, Ob.eta, Cl.eta, tt_true, tt_false, decide_eq_true_eq, decide_eq_false_iff_not, beq_iff_eq, beq_eq_false_iff_ne, bne_iff_ne, ne_eq, Bool.not_eq_true, Bool.not_eq_false, Bool.not_eq_eq_eq_not, Bool.not_true, Bool.not_false, Decidable.not_not, Int.not_lt, Int.not_le, gt_iff_lt, ge_iff_le, bne_eq_false_iff_eq]; first | done | assumption | omega), ?_⟩) | (refine Or.inr (Or.inr ⟨fun hsp => ?_, fun hsp => ?_⟩) <;> (try simp only [eqO, Ob.eta, Cl.eta, tt_true, tt_false, decide_eq_true_eq, decide_eq_false_iff_not, beq_iff_eq, beq_eq_false_iff_ne, bne_iff_ne, ne_eq, Bool.not_eq_true, Bool.not_eq_false, Bool.not_eq_eq_eq_not, Bool.not_true, Bool.not_false, Decidable.not_not, Int.not_lt, Int.not_le, gt_iff_lt, ge_iff_le, bne_eq_false_iff_eq] at hsp) <;> try subst hsp))
             | refine ⟨_, _, TdW11.ok C, ?_⟩
             | refine ⟨_, _, kh, ?_⟩
             | refine ⟨_, _, ka, ?_⟩
             | refine ⟨_, _, kb, ?_⟩
             | refine ⟨_, _, kc, ?_⟩
             | refine ⟨_, _, ok_heap_Equal C h (⟨ak, ae, an, as, ar, af, al⟩ : Ob) (⟨ak, ae, an, as, ar, af, al⟩ : Ob) na na, ?_⟩
             | refine ⟨_, _, ok_heap_Equal C h (⟨ak, ae, an, as, ar, af, al⟩ : Ob) (⟨ak, !ae, an, as, ar, af, al⟩ : Ob) na na, ?_⟩
             | refine ⟨_, _, ok_heap_Equal C h (⟨ak, ae, an, as, ar, af, al⟩ : Ob) (⟨bk, be, bn, bs, br, bf, bl⟩ : Ob) na nb, ?_⟩
             | refine ⟨_, _, ok_heap_Equal C h (⟨bk, be, bn, bs, br, bf, bl⟩ : Ob) (⟨ak, ae, an, as, ar, af, al⟩ : Ob) nb na, ?_⟩
             | refine ⟨_, _, ok_heap_Equal C h (⟨bk, be, bn, bs, br, bf, bl⟩ : Ob) (⟨ck, ce, cn, cs, cr, cf, cl⟩ : Ob) nb nc, ?_⟩
             | refine ⟨_, _, ok_heap_Equal C h (⟨ak, ae, an, as, ar, af, al⟩ : Ob) (⟨ck, ce, cn, cs, cr, cf, cl⟩ : Ob) na nc, ?_⟩
             | refine ⟨_, _, ok_heap_Key C h (⟨ak, ae, an, as, ar, af, al⟩ : Ob) na, ?_⟩
             | refine ⟨_, _, ok_heap_Key C h (⟨bk, be, bn, bs, br, bf, bl⟩ : Ob) nb, ?_⟩
             | fail)
  all_goals (conv => whnf)
  all_goals (first | exact PV.le.refl _ | (exfalso; grind) | (refine le_of_eq ?_; congr 1; simp only [eqO, Ob.eta]; rw [propext (e5 (by assumption) (by assumption))]; exact beq_self_eq_true _))
end Go.Ab.Td
