/- ResourceFinds: the law. Under: nothing. -/
import Derived.Test.YtblkalcialfiaaaDoorTdFk
import Derived.Test.YtblkalcialfiaaaDoorTdAr2
import Derived.Test.YtblkalcialfiaaaDoorAbMm
import Derived.Test.YtblkalcialfiaaaDoorAbPd
import Derived.Test.YtblkalcialfiaaaDoorTdW18
import Derived.Test.YtblkalcialfiaaaDoorTdL
namespace Go.Ab.Td
open Go Go.Ab
variable {P : Program}
set_option linter.unusedSimpArgs false
attribute [local irreducible] compat
/-- A state in which resources are defined one by one. -/
def SI (n : Nat) (s : Sta) : Prop := HI n s.heap ∧ s.ops.length ≤ 1000 ∧ ∀ o ∈ s.ops, o.n < 9223372036854775808
theorem SI.nOk {n : Nat} {s : Sta} (h : SI n s) (hn : n ≤ 1000000) : Go.Ab.nOk s := ⟨h.1.small hn, by have := h.2.1; omega, h.2.2, h.1.vals⟩
theorem SI.up {n : Nat} {s : Sta} (h : SI n s) : SI (n + 1) s := by
  refine ⟨⟨h.1.len, h.1.cat, h.1.dics, fun c hc => ?_, h.1.shape, h.1.vals⟩, h.2⟩
  obtain ⟨a, b, c, d⟩ := h.1.sz c hc
  exact ⟨by omega, by omega, c, d⟩
theorem cat_at {A : Int} (h0 : 0 ≤ A ∧ A < 256) : ∃ cs, cs ∈ cats ∧ (cats.map fun c => [PV.str c])[((IntKind.i64.wrap A).tmod 5).toNat]? = some [PV.str cs] := by
  have hw : IntKind.i64.wrap A = A := wrap_small (by omega) (by omega)
  rw [hw]
  have a := Int.tmod_nonneg 5 h0.1
  have b := Int.tmod_lt_of_pos A (show (0 : Int) < 5 by decide)
  generalize A.tmod 5 = k at *
  have : k = 0 ∨ k = 1 ∨ k = 2 ∨ k = 3 ∨ k = 4 := by omega
  rcases this with rfl | rfl | rfl | rfl | rfl
  · exact ⟨_, by simp [cats], rfl⟩
  · exact ⟨_, by simp [cats], rfl⟩
  · exact ⟨_, by simp [cats], rfl⟩
  · exact ⟨_, by simp [cats], rfl⟩
  · exact ⟨_, by simp [cats], rfl⟩


set_option maxHeartbeats 16000000 in
set_option maxRecDepth 100000 in
theorem ok_law18_ResourceFinds (C : Laid P) (cells ops dicts : List (List PV)) (hc : ∀ r ∈ cells, WordR r) (ho : ∀ r ∈ ops, WordR r) (hd : ∀ r ∈ dicts, ∃ D, r = [.int .u8 D] ∧ 0 ≤ D ∧ D < 256) (ws : List Wd) (c0 : List UInt8) (k0 : Ob) : OkC P G n_law18_ResourceFinds [.agg [.sl 5 cells, .sl 5 ops, .sl 1 dicts], .sl 5 (ws.map Wd.row), .str c0, aO k0] [] (.bool true) := by
  refine ok_fn C (k_law18_ResourceFinds C) rfl ?_
  obtain ⟨s0, hst, ks⟩ := kit_stateT C cells ops dicts hc ho hd
  have hi0 : SI 1000 s0 := by
    obtain ⟨o, d, h, rfl, ht, h20, hn, -⟩ := hst
    exact ⟨ht.hi, by show o.length ≤ _; omega, hn⟩
  repeat' (conv => whnf
           first
             | (with_reducible refine sC (by kernel_rfl) ?_)
             | ((first | with_reducible refine sB ?_ | with_reducible refine sG0 ?_ | with_reducible refine sG1 ?_ | refine sP (by rfl) ?_); first | refine Or.inl ⟨by first | assumption | (simp only [eqO, Ob.eta, Cl.eta, tt_true, tt_false, decide_eq_true_eq, decide_eq_false_iff_not, beq_iff_eq, beq_eq_false_iff_ne, bne_iff_ne, ne_eq, Bool.not_eq_true, Bool.not_eq_false, Bool.not_eq_eq_eq_not, Bool.not_true, Bool.not_false, Decidable.not_not, Int.not_lt, Int.not_le, gt_iff_lt, ge_iff_le, bne_eq_false_iff_eq, List.length_map]; first | done | assumption | omega), ?_⟩ | refine Or.inr (Or.inl ⟨by first | assumption | (simp only [eqO, Ob.eta, Cl.eta, tt_true, tt_false, decide_eq_true_eq, decide_eq_false_iff_not, beq_iff_eq, beq_eq_false_iff_ne, bne_iff_ne, ne_eq, Bool.not_eq_true, Bool.not_eq_false, Bool.not_eq_eq_eq_not, Bool.not_true, Bool.not_false, Decidable.not_not, Int.not_lt, Int.not_le, gt_iff_lt, ge_iff_le, bne_eq_false_iff_eq, List.length_map]; first | done | assumption | omega), ?_⟩) | (refine Or.inr (Or.inr ⟨fun hsp => ?_, fun hsp => ?_⟩) <;> (try simp only [eqO, Ob.eta, Cl.eta, tt_true, tt_false, decide_eq_true_eq, decide_eq_false_iff_not, beq_iff_eq, beq_eq_false_iff_ne, bne_iff_ne, ne_eq, Bool.not_eq_true, Bool.not_eq_false, Bool.not_eq_eq_eq_not, Bool.not_true, Bool.not_false, Decidable.not_not, Int.not_lt, Int.not_le, gt_iff_lt, ge_iff_le, bne_eq_false_iff_eq, List.length_map] at hsp) <;> try subst hsp))
             | refine ⟨_, _, TdW18.ok C, ?_⟩
             | refine ⟨_, _, ks, ?_⟩
             | refine sS (slice_min (f := Wd.row) (by rfl) (by rfl) (by decide)) ?_
             | refine sS (sslice_min (by rfl) (by rfl) (by decide)) ?_
             | fail)
  all_goals (conv => whnf)
  intro X hX hW
  refine loopI hX (fun st (a : Nat × List Ob × Sta) => st.upd [(10, .own 64 0 a.2.1.length), (43, .pv (pI (a.1 : Int)))] [(28, .box 67 [(encS a.2.2).map .pv] false), (64, .arr 7 (a.2.1.map encO) false)]) (fun a k => a.1 + k = (ws.take (6 : Int).toNat).length ∧ (SI (1000 + a.1) a.2.2 ∧ a.2.1.length ≤ 1 + a.1 ∧ True)) (0, [k0], s0) (ws.take (6 : Int).toNat).length (by (conv => whnf); first | done | rfl | (simp only [Nat.zero_add, List.length_cons, List.length_nil]; rfl)) ⟨by simp, hi0, by simp, trivial⟩ ?_
  intro m a ih hI
  have hl6 : (ws.take (6 : Int).toNat).length ≤ 6 := by rw [show (6 : Int).toNat = 6 from rfl, List.length_take]; omega
  rcases at_or (ws.take (6 : Int).toNat) a.1 with ⟨x, hlt, hx⟩ | hge
  · skip
    obtain ⟨xK, xA, xB, xN, xS, x1, x2, x3⟩ := x
    have hrow : (List.map Wd.row (ws.take (6 : Int).toNat))[((a.1 : Nat) : Int).toNat]? = some (Wd.row ⟨xK, xA, xB, xN, xS, x1, x2, x3⟩) := row_map (f := Wd.row) hx
    obtain ⟨hsi, hll, -⟩ := hI.2
    have hi := hsi.1
    have hm6 : a.1 < 6 := by omega
    have hsm := hi.small (by omega)
    have hfo := fits_objH hi xK xA xB xN x1 x2 x3
    have hon := obj_n a.2.2.heap xK xA xB xN x1 x3
    have kK := ok_ref11_Key C a.2.2.heap (objO a.2.2.heap xK xA xB xN) hfo
    by_cases hke : (hKey a.2.2.heap (objO a.2.2.heap xK xA xB xN)).2 = 0
    · rw [hke] at kK
      obtain ⟨fk, kk, k0, kn⟩ := key_key hon hfo hke
      obtain ⟨cs, hcs, hcr⟩ := cat_at x1
      have hj0 : 0 ≤ (IntKind.i64.wrap xA).tmod 5 := by rw [wrap_small (by omega) (by omega)]; exact Int.tmod_nonneg _ x1.1
      obtain ⟨j, h5, h9, hd', hr, hcl⟩ := hi.cat_dic hcs
      obtain ⟨v1, cj, hcj, hca⟩ := hi.dicAt h5 h9
      have h10 := hi.len
      by_cases hsu : suitsP cs (objO a.2.2.heap xK xA xB xN)
      · cases hp : putKV (cellAt a.2.2.heap (dO j)) (hKey a.2.2.heap (objO a.2.2.heap xK xA xB xN)).1 (objO a.2.2.heap xK xA xB xN) with
        | none =>
          have kDo := ok_ref18_Do_full C a.2.2 (hKey a.2.2.heap (objO a.2.2.heap xK xA xB xN)).1 (objO a.2.2.heap xK xA xB xN) cs hsm (by omega) fk kk k0 hcl j hd' hr (by omega) (by omega) hsu hp
          repeat' (conv => whnf
                   first
                     | (with_reducible refine sC (by kernel_rfl) ?_)
                     | ((first | with_reducible refine sB ?_ | with_reducible refine sG0 ?_ | with_reducible refine sG1 ?_ | refine sP (by rfl) ?_); first | refine Or.inl ⟨by first | assumption | (simp only [eqO, Ob.eta, Cl.eta, tt_true, tt_false, decide_eq_true_eq, decide_eq_false_iff_not, beq_iff_eq, beq_eq_false_iff_ne, bne_iff_ne, ne_eq, Bool.not_eq_true, Bool.not_eq_false, Bool.not_eq_eq_eq_not, Bool.not_true, Bool.not_false, Decidable.not_not, Int.not_lt, Int.not_le, gt_iff_lt, ge_iff_le, bne_eq_false_iff_eq, List.length_map]; first | done | assumption | omega), ?_⟩ | refine Or.inr (Or.inl ⟨by first | assumption | (simp only [eqO, Ob.eta, Cl.eta, tt_true, tt_false, decide_eq_true_eq, decide_eq_false_iff_not, beq_iff_eq, beq_eq_false_iff_ne, bne_iff_ne, ne_eq, Bool.not_eq_true, Bool.not_eq_false, Bool.not_eq_eq_eq_not, Bool.not_true, Bool.not_false, Decidable.not_not, Int.not_lt, Int.not_le, gt_iff_lt, ge_iff_le, bne_eq_false_iff_eq, List.length_map]; first | done | assumption | omega), ?_⟩) | (refine Or.inr (Or.inr ⟨fun hsp => ?_, fun hsp => ?_⟩) <;> (try simp only [eqO, Ob.eta, Cl.eta, tt_true, tt_false, decide_eq_true_eq, decide_eq_false_iff_not, beq_iff_eq, beq_eq_false_iff_ne, bne_iff_ne, ne_eq, Bool.not_eq_true, Bool.not_eq_false, Bool.not_eq_eq_eq_not, Bool.not_true, Bool.not_false, Decidable.not_not, Int.not_lt, Int.not_le, gt_iff_lt, ge_iff_le, bne_eq_false_iff_eq, List.length_map] at hsp) <;> try subst hsp))
                     | refine ⟨_, _, ok_ref11_Word_Obj C a.2.2.heap hsm xK xA xB xN xS x1 x2 x3, ?_⟩
                     | refine ⟨_, _, kK, ?_⟩
                     | refine ⟨_, _, ok_ref11_Categories C, ?_⟩
                     | refine ⟨_, _, ok_law18_name C cs, ?_⟩
                     | refine ⟨_, _, ok_law18_then C a.2.2 [(hKey a.2.2.heap (objO a.2.2.heap xK xA xB xN)).1, (objO a.2.2.heap xK xA xB xN), nmO cs], ?_⟩
                     | refine ⟨_, _, kDo, ?_⟩
                     | refine sS (iaddr_at (by rfl) (by rfl) (by omega) hrow) ?_
                     | refine sS (iaddr_at (j := (IntKind.i64.wrap xA).tmod 5) (by rfl) (by rfl) hj0 hcr) ?_
                     | refine sS (append_oM (f := encO) (l := a.2.1) (x' := [(hKey a.2.2.heap (objO a.2.2.heap xK xA xB xN)).1]) (by rfl) (by rfl) (by rfl) (by first | exact prows_pv | exact prows_fsl | exact prows_own (by rfl) (by rfl)) (by rfl) (by simp only [List.length_cons, List.length_nil]; omega)) ?_
                     | fail)
          all_goals (conv => whnf)
          all_goals (refine ih (m - 1) (a.1 + 1, a.2.1 ++ [(hKey a.2.2.heap (objO a.2.2.heap xK xA xB xN)).1], a.2.2) _ (by omega) ⟨by (try dsimp only); omega, ?_⟩ (by (conv => whnf); first | done | rfl | (simp (disch := omega) only [wrap_succ, List.length_append, List.length_cons, List.length_nil, Nat.zero_add]; try rfl)))
          all_goals exact ⟨by rw [show 1000 + (a.1 + 1) = (1000 + a.1) + 1 by omega]; exact hsi.up, by simp; omega, trivial⟩
        | some t =>
          have kDo := ok_ref18_Do_ok C a.2.2 (hKey a.2.2.heap (objO a.2.2.heap xK xA xB xN)).1 (objO a.2.2.heap xK xA xB xN) cs hsm (by omega) fk kk k0 hcl j hd' hr (by omega) (by omega) hsu t hp
          have hsi' : SI (1000 + a.1 + 1) { a.2.2 with ops := [(objO a.2.2.heap xK xA xB xN)], heap := a.2.2.heap.set (j : Int).toNat t } := ⟨hi.put h5 h9 hcj (by rw [hca] at hp; exact hp) hon, by simp, by intro o ho; rw [List.mem_singleton] at ho; rw [ho]; exact hon⟩
          repeat' (conv => whnf
                   first
                     | (with_reducible refine sC (by kernel_rfl) ?_)
                     | ((first | with_reducible refine sB ?_ | with_reducible refine sG0 ?_ | with_reducible refine sG1 ?_ | refine sP (by rfl) ?_); first | refine Or.inl ⟨by first | assumption | (simp only [eqO, Ob.eta, Cl.eta, tt_true, tt_false, decide_eq_true_eq, decide_eq_false_iff_not, beq_iff_eq, beq_eq_false_iff_ne, bne_iff_ne, ne_eq, Bool.not_eq_true, Bool.not_eq_false, Bool.not_eq_eq_eq_not, Bool.not_true, Bool.not_false, Decidable.not_not, Int.not_lt, Int.not_le, gt_iff_lt, ge_iff_le, bne_eq_false_iff_eq, List.length_map]; first | done | assumption | omega), ?_⟩ | refine Or.inr (Or.inl ⟨by first | assumption | (simp only [eqO, Ob.eta, Cl.eta, tt_true, tt_false, decide_eq_true_eq, decide_eq_false_iff_not, beq_iff_eq, beq_eq_false_iff_ne, bne_iff_ne, ne_eq, Bool.not_eq_true, Bool.not_eq_false, Bool.not_eq_eq_eq_not, Bool.not_true, Bool.not_false, Decidable.not_not, Int.not_lt, Int.not_le, gt_iff_lt, ge_iff_le, bne_eq_false_iff_eq, List.length_map]; first | done | assumption | omega), ?_⟩) | (refine Or.inr (Or.inr ⟨fun hsp => ?_, fun hsp => ?_⟩) <;> (try simp only [eqO, Ob.eta, Cl.eta, tt_true, tt_false, decide_eq_true_eq, decide_eq_false_iff_not, beq_iff_eq, beq_eq_false_iff_ne, bne_iff_ne, ne_eq, Bool.not_eq_true, Bool.not_eq_false, Bool.not_eq_eq_eq_not, Bool.not_true, Bool.not_false, Decidable.not_not, Int.not_lt, Int.not_le, gt_iff_lt, ge_iff_le, bne_eq_false_iff_eq, List.length_map] at hsp) <;> try subst hsp))
                     | refine ⟨_, _, ok_ref11_Word_Obj C a.2.2.heap hsm xK xA xB xN xS x1 x2 x3, ?_⟩
                     | refine ⟨_, _, kK, ?_⟩
                     | refine ⟨_, _, ok_ref11_Categories C, ?_⟩
                     | refine ⟨_, _, ok_law18_name C cs, ?_⟩
                     | refine ⟨_, _, ok_law18_then C a.2.2 [(hKey a.2.2.heap (objO a.2.2.heap xK xA xB xN)).1, (objO a.2.2.heap xK xA xB xN), nmO cs], ?_⟩
                     | refine ⟨_, _, kDo, ?_⟩
                     | refine sS (iaddr_at (by rfl) (by rfl) (by omega) hrow) ?_
                     | refine sS (iaddr_at (j := (IntKind.i64.wrap xA).tmod 5) (by rfl) (by rfl) hj0 hcr) ?_
                     | refine sS (append_oM (f := encO) (l := a.2.1) (x' := [(hKey a.2.2.heap (objO a.2.2.heap xK xA xB xN)).1]) (by rfl) (by rfl) (by rfl) (by first | exact prows_pv | exact prows_fsl | exact prows_own (by rfl) (by rfl)) (by rfl) (by simp only [List.length_cons, List.length_nil]; omega)) ?_
                     | fail)
          all_goals (conv => whnf)
          all_goals (refine ih (m - 1) (a.1 + 1, a.2.1 ++ [(hKey a.2.2.heap (objO a.2.2.heap xK xA xB xN)).1], { a.2.2 with ops := [(objO a.2.2.heap xK xA xB xN)], heap := a.2.2.heap.set (j : Int).toNat t }) _ (by omega) ⟨by (try dsimp only); omega, ?_⟩ (by (conv => whnf); first | done | rfl | (simp (disch := omega) only [wrap_succ, List.length_append, List.length_cons, List.length_nil, Nat.zero_add]; try rfl)))
          all_goals exact ⟨by rw [show 1000 + (a.1 + 1) = (1000 + a.1) + 1 by omega]; exact hsi', by simp; omega, trivial⟩
      · have kDo := ok_ref18_Do_suits C a.2.2 (hKey a.2.2.heap (objO a.2.2.heap xK xA xB xN)).1 (objO a.2.2.heap xK xA xB xN) cs hsm (by omega) fk kk k0 hcl j hd' hr (by omega) (by omega) hsu
        repeat' (conv => whnf
                 first
                   | (with_reducible refine sC (by kernel_rfl) ?_)
                   | ((first | with_reducible refine sB ?_ | with_reducible refine sG0 ?_ | with_reducible refine sG1 ?_ | refine sP (by rfl) ?_); first | refine Or.inl ⟨by first | assumption | (simp only [eqO, Ob.eta, Cl.eta, tt_true, tt_false, decide_eq_true_eq, decide_eq_false_iff_not, beq_iff_eq, beq_eq_false_iff_ne, bne_iff_ne, ne_eq, Bool.not_eq_true, Bool.not_eq_false, Bool.not_eq_eq_eq_not, Bool.not_true, Bool.not_false, Decidable.not_not, Int.not_lt, Int.not_le, gt_iff_lt, ge_iff_le, bne_eq_false_iff_eq, List.length_map]; first | done | assumption | omega), ?_⟩ | refine Or.inr (Or.inl ⟨by first | assumption | (simp only [eqO, Ob.eta, Cl.eta, tt_true, tt_false, decide_eq_true_eq, decide_eq_false_iff_not, beq_iff_eq, beq_eq_false_iff_ne, bne_iff_ne, ne_eq, Bool.not_eq_true, Bool.not_eq_false, Bool.not_eq_eq_eq_not, Bool.not_true, Bool.not_false, Decidable.not_not, Int.not_lt, Int.not_le, gt_iff_lt, ge_iff_le, bne_eq_false_iff_eq, List.length_map]; first | done | assumption | omega), ?_⟩) | (refine Or.inr (Or.inr ⟨fun hsp => ?_, fun hsp => ?_⟩) <;> (try simp only [eqO, Ob.eta, Cl.eta, tt_true, tt_false, decide_eq_true_eq, decide_eq_false_iff_not, beq_iff_eq, beq_eq_false_iff_ne, bne_iff_ne, ne_eq, Bool.not_eq_true, Bool.not_eq_false, Bool.not_eq_eq_eq_not, Bool.not_true, Bool.not_false, Decidable.not_not, Int.not_lt, Int.not_le, gt_iff_lt, ge_iff_le, bne_eq_false_iff_eq, List.length_map] at hsp) <;> try subst hsp))
                   | refine ⟨_, _, ok_ref11_Word_Obj C a.2.2.heap hsm xK xA xB xN xS x1 x2 x3, ?_⟩
                   | refine ⟨_, _, kK, ?_⟩
                   | refine ⟨_, _, ok_ref11_Categories C, ?_⟩
                   | refine ⟨_, _, ok_law18_name C cs, ?_⟩
                   | refine ⟨_, _, ok_law18_then C a.2.2 [(hKey a.2.2.heap (objO a.2.2.heap xK xA xB xN)).1, (objO a.2.2.heap xK xA xB xN), nmO cs], ?_⟩
                   | refine ⟨_, _, kDo, ?_⟩
                   | refine sS (iaddr_at (by rfl) (by rfl) (by omega) hrow) ?_
                   | refine sS (iaddr_at (j := (IntKind.i64.wrap xA).tmod 5) (by rfl) (by rfl) hj0 hcr) ?_
                   | refine sS (append_oM (f := encO) (l := a.2.1) (x' := [(hKey a.2.2.heap (objO a.2.2.heap xK xA xB xN)).1]) (by rfl) (by rfl) (by rfl) (by first | exact prows_pv | exact prows_fsl | exact prows_own (by rfl) (by rfl)) (by rfl) (by simp only [List.length_cons, List.length_nil]; omega)) ?_
                   | fail)
        all_goals (conv => whnf)
        all_goals (refine ih (m - 1) (a.1 + 1, a.2.1 ++ [(hKey a.2.2.heap (objO a.2.2.heap xK xA xB xN)).1], a.2.2) _ (by omega) ⟨by (try dsimp only); omega, ?_⟩ (by (conv => whnf); first | done | rfl | (simp (disch := omega) only [wrap_succ, List.length_append, List.length_cons, List.length_nil, Nat.zero_add]; try rfl)))
        all_goals exact ⟨by rw [show 1000 + (a.1 + 1) = (1000 + a.1) + 1 by omega]; exact hsi.up, by simp; omega, trivial⟩
    · repeat' (conv => whnf
               first
                 | (with_reducible refine sC (by kernel_rfl) ?_)
                 | ((first | with_reducible refine sB ?_ | with_reducible refine sG0 ?_ | with_reducible refine sG1 ?_ | refine sP (by rfl) ?_); first | refine Or.inl ⟨by first | assumption | (simp only [eqO, Ob.eta, Cl.eta, tt_true, tt_false, decide_eq_true_eq, decide_eq_false_iff_not, beq_iff_eq, beq_eq_false_iff_ne, bne_iff_ne, ne_eq, Bool.not_eq_true, Bool.not_eq_false, Bool.not_eq_eq_eq_not, Bool.not_true, Bool.not_false, Decidable.not_not, Int.not_lt, Int.not_le, gt_iff_lt, ge_iff_le, bne_eq_false_iff_eq, List.length_map]; first | done | assumption | omega), ?_⟩ | refine Or.inr (Or.inl ⟨by first | assumption | (simp only [eqO, Ob.eta, Cl.eta, tt_true, tt_false, decide_eq_true_eq, decide_eq_false_iff_not, beq_iff_eq, beq_eq_false_iff_ne, bne_iff_ne, ne_eq, Bool.not_eq_true, Bool.not_eq_false, Bool.not_eq_eq_eq_not, Bool.not_true, Bool.not_false, Decidable.not_not, Int.not_lt, Int.not_le, gt_iff_lt, ge_iff_le, bne_eq_false_iff_eq, List.length_map]; first | done | assumption | omega), ?_⟩) | (refine Or.inr (Or.inr ⟨fun hsp => ?_, fun hsp => ?_⟩) <;> (try simp only [eqO, Ob.eta, Cl.eta, tt_true, tt_false, decide_eq_true_eq, decide_eq_false_iff_not, beq_iff_eq, beq_eq_false_iff_ne, bne_iff_ne, ne_eq, Bool.not_eq_true, Bool.not_eq_false, Bool.not_eq_eq_eq_not, Bool.not_true, Bool.not_false, Decidable.not_not, Int.not_lt, Int.not_le, gt_iff_lt, ge_iff_le, bne_eq_false_iff_eq, List.length_map] at hsp) <;> try subst hsp))
                 | refine ⟨_, _, ok_ref11_Word_Obj C a.2.2.heap hsm xK xA xB xN xS x1 x2 x3, ?_⟩
                 | refine ⟨_, _, kK, ?_⟩
                 | refine sS (iaddr_at (by rfl) (by rfl) (by omega) hrow) ?_
                 | refine sS (iaddr_at (j := (IntKind.i64.wrap xA).tmod 5) (by rfl) (by rfl) hj0 hcr) ?_
                 | refine sS (append_oM (f := encO) (l := a.2.1) (x' := [(hKey a.2.2.heap (objO a.2.2.heap xK xA xB xN)).1]) (by rfl) (by rfl) (by rfl) (by first | exact prows_pv | exact prows_fsl | exact prows_own (by rfl) (by rfl)) (by rfl) (by simp only [List.length_cons, List.length_nil]; omega)) ?_
                 | fail)
      all_goals (conv => whnf)
      all_goals (refine ih (m - 1) (a.1 + 1, a.2.1, a.2.2) _ (by omega) ⟨by (try dsimp only); omega, ?_⟩ (by (conv => whnf); first | done | rfl | (simp (disch := omega) only [wrap_succ]; try rfl)))
      all_goals exact ⟨by rw [show 1000 + (a.1 + 1) = (1000 + a.1) + 1 by omega]; exact hsi.up, by show a.2.1.length ≤ 1 + (a.1 + 1); omega, trivial⟩
  · skip
    obtain ⟨hsi, hll, -⟩ := hI.2
    have hsm := hsi.1.small (by omega)
    have hnk := hsi.nOk (by omega)
    have h10 := hsi.1.len
    generalize a.2.2 = s at *
    generalize a.2.1 = kl at *
    repeat' (conv => whnf
             first
               | (with_reducible refine sC (by kernel_rfl) ?_)
               | ((first | with_reducible refine sB ?_ | with_reducible refine sG0 ?_ | with_reducible refine sG1 ?_ | refine sP (by rfl) ?_); first | refine Or.inl ⟨by first | assumption | (simp only [eqO, Ob.eta, Cl.eta, tt_true, tt_false, decide_eq_true_eq, decide_eq_false_iff_not, beq_iff_eq, beq_eq_false_iff_ne, bne_iff_ne, ne_eq, Bool.not_eq_true, Bool.not_eq_false, Bool.not_eq_eq_eq_not, Bool.not_true, Bool.not_false, Decidable.not_not, Int.not_lt, Int.not_le, gt_iff_lt, ge_iff_le, bne_eq_false_iff_eq, List.length_map]; first | done | assumption | omega), ?_⟩ | refine Or.inr (Or.inl ⟨by first | assumption | (simp only [eqO, Ob.eta, Cl.eta, tt_true, tt_false, decide_eq_true_eq, decide_eq_false_iff_not, beq_iff_eq, beq_eq_false_iff_ne, bne_iff_ne, ne_eq, Bool.not_eq_true, Bool.not_eq_false, Bool.not_eq_eq_eq_not, Bool.not_true, Bool.not_false, Decidable.not_not, Int.not_lt, Int.not_le, gt_iff_lt, ge_iff_le, bne_eq_false_iff_eq, List.length_map]; first | done | assumption | omega), ?_⟩) | (refine Or.inr (Or.inr ⟨fun hsp => ?_, fun hsp => ?_⟩) <;> (try simp only [eqO, Ob.eta, Cl.eta, tt_true, tt_false, decide_eq_true_eq, decide_eq_false_iff_not, beq_iff_eq, beq_eq_false_iff_ne, bne_iff_ne, ne_eq, Bool.not_eq_true, Bool.not_eq_false, Bool.not_eq_eq_eq_not, Bool.not_true, Bool.not_false, Decidable.not_not, Int.not_lt, Int.not_le, gt_iff_lt, ge_iff_le, bne_eq_false_iff_eq, List.length_map] at hsp) <;> try subst hsp))
               | fail)
    all_goals (conv => whnf)
    intro Y hY hWY
    refine loopI hY (fun st (q : Nat) => st.upd [(87, .pv (pI (q : Int)))] []) (fun q k => q + k = kl.length ∧ (kl.drop q).length = kl.length - q) 0 kl.length (by (conv => whnf); first | done | rfl) (by simp) ?_
    intro m2 q qh hQ
    rcases at_or kl q with ⟨ky, hlt2, hq⟩ | hge2
    · have hrow2 : (List.map encO kl)[0 + ((q : Nat) : Int).toNat]? = some (encO ky) := by rw [Nat.zero_add]; exact row_map (f := encO) hq
      repeat' (conv => whnf
               first
                 | (with_reducible refine sC (by kernel_rfl) ?_)
                 | ((first | with_reducible refine sB ?_ | with_reducible refine sG0 ?_ | with_reducible refine sG1 ?_ | refine sP (by rfl) ?_); first | refine Or.inl ⟨by first | assumption | (simp only [eqO, Ob.eta, Cl.eta, tt_true, tt_false, decide_eq_true_eq, decide_eq_false_iff_not, beq_iff_eq, beq_eq_false_iff_ne, bne_iff_ne, ne_eq, Bool.not_eq_true, Bool.not_eq_false, Bool.not_eq_eq_eq_not, Bool.not_true, Bool.not_false, Decidable.not_not, Int.not_lt, Int.not_le, gt_iff_lt, ge_iff_le, bne_eq_false_iff_eq, List.length_map]; first | done | assumption | omega), ?_⟩ | refine Or.inr (Or.inl ⟨by first | assumption | (simp only [eqO, Ob.eta, Cl.eta, tt_true, tt_false, decide_eq_true_eq, decide_eq_false_iff_not, beq_iff_eq, beq_eq_false_iff_ne, bne_iff_ne, ne_eq, Bool.not_eq_true, Bool.not_eq_false, Bool.not_eq_eq_eq_not, Bool.not_true, Bool.not_false, Decidable.not_not, Int.not_lt, Int.not_le, gt_iff_lt, ge_iff_le, bne_eq_false_iff_eq, List.length_map]; first | done | assumption | omega), ?_⟩) | (refine Or.inr (Or.inr ⟨fun hsp => ?_, fun hsp => ?_⟩) <;> (try simp only [eqO, Ob.eta, Cl.eta, tt_true, tt_false, decide_eq_true_eq, decide_eq_false_iff_not, beq_iff_eq, beq_eq_false_iff_ne, bne_iff_ne, ne_eq, Bool.not_eq_true, Bool.not_eq_false, Bool.not_eq_eq_eq_not, Bool.not_true, Bool.not_false, Decidable.not_not, Int.not_lt, Int.not_le, gt_iff_lt, ge_iff_le, bne_eq_false_iff_eq, List.length_map] at hsp) <;> try subst hsp))
                 | refine ⟨_, _, ok_cats_own C, ?_⟩
                 | refine sS (iaddr_o (by rfl) (by rfl) (by rfl) (by omega) (by omega)) ?_
                 | refine sS (load_row (by rfl) (by rfl) hrow2 (by rfl)) ?_
                 | refine sS (append_oM (f := (fun c : List UInt8 => [PV.str c])) (l := cats) (x' := [(c0.take (120 : Int).toNat), []]) (by rfl) (by rfl) (by rfl) (by first | exact prows_pv | exact prows_fsl | exact prows_own (by rfl) (by rfl)) (by rfl) (by decide)) ?_
                 | fail)
      all_goals (conv => whnf)
      intro Z hZ hWZ
      obtain ⟨nl, hnl⟩ : ∃ nl : List (List UInt8), nl = (cats ++ [(c0.take (120 : Int).toNat), []]) := ⟨_, rfl⟩
      have hnll : nl.length = 7 := by rw [hnl]; rfl
      have hc7 : cats.length + (List.take 2 (List.drop 0 [[PV.str (c0.take (120 : Int).toNat)], [PV.str []]])).length = 7 := rfl
      refine loopI hZ (fun st (i : Nat) => st.upd [(96, .pv (pI (i : Int)))] []) (fun i k => i + k = nl.length ∧ (nl.drop i).length = nl.length - i) 0 nl.length (by (conv => whnf); first | done | rfl) (by simp) ?_
      intro m3 i jh hJ
      rcases at_or nl i with ⟨nm, hlt3, hn⟩ | hge3
      · have hrow3 : (List.map (fun c : List UInt8 => [PV.str c]) (cats ++ [(c0.take (120 : Int).toNat), []]))[0 + ((i : Nat) : Int).toNat]? = some [PV.str nm] := by rw [Nat.zero_add, ← hnl]; exact row_map (f := (fun c : List UInt8 => [PV.str c])) hn
        obtain ⟨e1, e2⟩ := hsi.1.find_eq nm ky
        have kA := ok_resource_Find C s nm ky hnk
        unfold rfO rfE at kA
        rw [e1, e2] at kA
        have kB := ok_ref18_Find C s nm ky hsm (by omega) (fun hr => by obtain ⟨j, h5, h9, e⟩ := hsi.1.rdic_j hr; rw [e]; exact ⟨by show (0 : Int) ≤ (j : Int); omega, by show (j : Int) < _; omega⟩)
        repeat' (conv => whnf
                 first
                   | (with_reducible refine sC (by kernel_rfl) ?_)
                   | ((first | with_reducible refine sB ?_ | with_reducible refine sG0 ?_ | with_reducible refine sG1 ?_ | refine sP (by rfl) ?_); first | refine Or.inl ⟨by first | assumption | (simp only [eqO, Ob.eta, Cl.eta, tt_true, tt_false, decide_eq_true_eq, decide_eq_false_iff_not, beq_iff_eq, beq_eq_false_iff_ne, bne_iff_ne, ne_eq, Bool.not_eq_true, Bool.not_eq_false, Bool.not_eq_eq_eq_not, Bool.not_true, Bool.not_false, Decidable.not_not, Int.not_lt, Int.not_le, gt_iff_lt, ge_iff_le, bne_eq_false_iff_eq, List.length_map, hc7]; first | done | assumption | omega), ?_⟩ | refine Or.inr (Or.inl ⟨by first | assumption | (simp only [eqO, Ob.eta, Cl.eta, tt_true, tt_false, decide_eq_true_eq, decide_eq_false_iff_not, beq_iff_eq, beq_eq_false_iff_ne, bne_iff_ne, ne_eq, Bool.not_eq_true, Bool.not_eq_false, Bool.not_eq_eq_eq_not, Bool.not_true, Bool.not_false, Decidable.not_not, Int.not_lt, Int.not_le, gt_iff_lt, ge_iff_le, bne_eq_false_iff_eq, List.length_map, hc7]; first | done | assumption | omega), ?_⟩) | (refine Or.inr (Or.inr ⟨fun hsp => ?_, fun hsp => ?_⟩) <;> (try simp only [eqO, Ob.eta, Cl.eta, tt_true, tt_false, decide_eq_true_eq, decide_eq_false_iff_not, beq_iff_eq, beq_eq_false_iff_ne, bne_iff_ne, ne_eq, Bool.not_eq_true, Bool.not_eq_false, Bool.not_eq_eq_eq_not, Bool.not_true, Bool.not_false, Decidable.not_not, Int.not_lt, Int.not_le, gt_iff_lt, ge_iff_le, bne_eq_false_iff_eq, List.length_map, hc7] at hsp) <;> try subst hsp))
                   | refine ⟨_, _, kA, ?_⟩
                   | refine ⟨_, _, kB, ?_⟩
                   | refine sS (iaddr_o (by rfl) (by rfl) (by rfl) (by omega) (by show (i : Int) < ((7 : Nat) : Int); omega)) ?_
                   | refine sS (load_one (by rfl) (by rfl) hrow3) ?_
                   | fail)
        all_goals (conv => whnf)
        all_goals (refine jh (m3 - 1) (i + 1) _ (by omega) ⟨by (try dsimp only); omega, ?_⟩ (by (conv => whnf); first | done | rfl | (simp (disch := omega) only [wrap_succ])); grind)
      · repeat' (conv => whnf
                 first
                   | (with_reducible refine sC (by kernel_rfl) ?_)
                   | ((first | with_reducible refine sB ?_ | with_reducible refine sG0 ?_ | with_reducible refine sG1 ?_ | refine sP (by rfl) ?_); first | refine Or.inl ⟨by first | assumption | (simp only [eqO, Ob.eta, Cl.eta, tt_true, tt_false, decide_eq_true_eq, decide_eq_false_iff_not, beq_iff_eq, beq_eq_false_iff_ne, bne_iff_ne, ne_eq, Bool.not_eq_true, Bool.not_eq_false, Bool.not_eq_eq_eq_not, Bool.not_true, Bool.not_false, Decidable.not_not, Int.not_lt, Int.not_le, gt_iff_lt, ge_iff_le, bne_eq_false_iff_eq, List.length_map, hc7]; first | done | assumption | omega), ?_⟩ | refine Or.inr (Or.inl ⟨by first | assumption | (simp only [eqO, Ob.eta, Cl.eta, tt_true, tt_false, decide_eq_true_eq, decide_eq_false_iff_not, beq_iff_eq, beq_eq_false_iff_ne, bne_iff_ne, ne_eq, Bool.not_eq_true, Bool.not_eq_false, Bool.not_eq_eq_eq_not, Bool.not_true, Bool.not_false, Decidable.not_not, Int.not_lt, Int.not_le, gt_iff_lt, ge_iff_le, bne_eq_false_iff_eq, List.length_map, hc7]; first | done | assumption | omega), ?_⟩) | (refine Or.inr (Or.inr ⟨fun hsp => ?_, fun hsp => ?_⟩) <;> (try simp only [eqO, Ob.eta, Cl.eta, tt_true, tt_false, decide_eq_true_eq, decide_eq_false_iff_not, beq_iff_eq, beq_eq_false_iff_ne, bne_iff_ne, ne_eq, Bool.not_eq_true, Bool.not_eq_false, Bool.not_eq_eq_eq_not, Bool.not_true, Bool.not_false, Decidable.not_not, Int.not_lt, Int.not_le, gt_iff_lt, ge_iff_le, bne_eq_false_iff_eq, List.length_map, hc7] at hsp) <;> try subst hsp))
                   | fail)
        all_goals (conv => whnf)
        all_goals (refine qh (m2 - 1) (q + 1) _ (by omega) ⟨by (try dsimp only); omega, ?_⟩ (by (conv => whnf); first | done | rfl | (simp (disch := omega) only [wrap_succ])); grind)
    · repeat' (conv => whnf
               first
                 | (with_reducible refine sC (by kernel_rfl) ?_)
                 | ((first | with_reducible refine sB ?_ | with_reducible refine sG0 ?_ | with_reducible refine sG1 ?_ | refine sP (by rfl) ?_); first | refine Or.inl ⟨by first | assumption | (simp only [eqO, Ob.eta, Cl.eta, tt_true, tt_false, decide_eq_true_eq, decide_eq_false_iff_not, beq_iff_eq, beq_eq_false_iff_ne, bne_iff_ne, ne_eq, Bool.not_eq_true, Bool.not_eq_false, Bool.not_eq_eq_eq_not, Bool.not_true, Bool.not_false, Decidable.not_not, Int.not_lt, Int.not_le, gt_iff_lt, ge_iff_le, bne_eq_false_iff_eq, List.length_map]; first | done | assumption | omega), ?_⟩ | refine Or.inr (Or.inl ⟨by first | assumption | (simp only [eqO, Ob.eta, Cl.eta, tt_true, tt_false, decide_eq_true_eq, decide_eq_false_iff_not, beq_iff_eq, beq_eq_false_iff_ne, bne_iff_ne, ne_eq, Bool.not_eq_true, Bool.not_eq_false, Bool.not_eq_eq_eq_not, Bool.not_true, Bool.not_false, Decidable.not_not, Int.not_lt, Int.not_le, gt_iff_lt, ge_iff_le, bne_eq_false_iff_eq, List.length_map]; first | done | assumption | omega), ?_⟩) | (refine Or.inr (Or.inr ⟨fun hsp => ?_, fun hsp => ?_⟩) <;> (try simp only [eqO, Ob.eta, Cl.eta, tt_true, tt_false, decide_eq_true_eq, decide_eq_false_iff_not, beq_iff_eq, beq_eq_false_iff_ne, bne_iff_ne, ne_eq, Bool.not_eq_true, Bool.not_eq_false, Bool.not_eq_eq_eq_not, Bool.not_true, Bool.not_false, Decidable.not_not, Int.not_lt, Int.not_le, gt_iff_lt, ge_iff_le, bne_eq_false_iff_eq, List.length_map] at hsp) <;> try subst hsp))
                 | fail)
      all_goals (conv => whnf)
      all_goals exact PV.le.refl _
end Go.Ab.Td
