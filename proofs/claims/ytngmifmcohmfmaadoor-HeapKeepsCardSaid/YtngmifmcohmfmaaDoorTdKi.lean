/- Joined texts: TdKe, TdKg, TdKi. Under: nothing. -/
import Derived.Test.YtngmifmcohmfmaaDoorTdG
import Derived.Test.YtngmifmcohmfmaaDoorAbG6
/- Cells whose objects fit, and whose keys are keys. Under: nothing. -/
namespace Go.Ab.Td
open Go Go.Ab
variable {P : Program}
set_option linter.unusedSimpArgs false
attribute [local irreducible] compat
theorem idx_mem (k : Ob) : ∀ (l : List Ob) (i : Nat), (0 ≤ idxFrom k i l) ↔ k ∈ l
  | [], i => by simp [idxFrom]
  | x :: l, i => by
    unfold idxFrom
    split
    · rename_i h; simp [h]
    · rename_i h
      rw [idx_mem k l (i + 1)]
      simp only [List.mem_cons]
      constructor
      · exact .inr
      · rintro (e | e)
        · exact absurd e.symm h
        · exact e
theorem itr_objects (C : Laid P) : chkItr P n_heap_objects_1 c_heap_objects_1 = true := by
  unfold chkItr
  rw [k_heap_objects_1 C]
  kernel_rfl
def tabI (g : Nat) : Option RFn := match Nat.beq g n_heap_objects_1 with | true => some c_heap_objects_1 | false => none
theorem ok_fnI (C : Laid P) {g : Nat} {c : RFn} {ps : List PV} {r : PV} (hk : chkFn P g c = true) (hl : ps.length = c.nparams) (h : fnV G (OkC P G) noX noT tabI 1 c ps r) : OkC P G g ps [] r :=
  ok_of_fnV C.mixed hk (fun _ _ h => by cases h) (fun _ _ h => by cases h) (fun g c h => by
    unfold tabI at h
    split at h
    · rename_i hb
      have := Nat.eq_of_beq_eq_true hb
      subst this
      cases h
      exact itr_objects C
    · cases h) hl h
def keysOk (l : List Ob) : Prop := ∀ (i : Nat) (k : Ob), l[i]? = some k → oKey k = (k, 0) ∧ ¬ k ∈ l.take i
def objsOf (c : Cl) : List (List Ob) := [c.items, c.keys, c.vals]
/-- All objects of a cell fit, and its keys are keys, and different. -/
def keyedP (h : List Cl) (c : Cl) : Prop := (∀ l ∈ objsOf c, ∀ o ∈ l, fits h o) ∧ keysOk c.keys


set_option maxHeartbeats 1000000 in
set_option maxRecDepth 100000 in
theorem ok_slices_Contains_Obj (C : Laid P) (l : List Ob) (k : Ob) (hl : l.length < 2 ^ 62) : OkC P G n_slices_Contains_Obj [.sl 7 (List.map encO l), aO k] [] (.bool (tt (k ∈ l))) := by
  refine ok_fn C (k_slices_Contains_Obj C) rfl ?_
  repeat' (conv => whnf
           first
             | (with_reducible refine sC (by kernel_rfl) ?_)
             | ((first | with_reducible refine sB ?_ | with_reducible refine sG0 ?_ | with_reducible refine sG1 ?_ | refine sP (by rfl) ?_); first | refine oT ?_ | refine oF ?_ | (refine Or.inr (Or.inr ⟨fun hsp => ?_, fun hsp => ?_⟩) <;> (try simp only [eqO, Ob.eta, Cl.eta, tt_true, tt_false, decide_eq_true_eq, decide_eq_false_iff_not, beq_iff_eq, beq_eq_false_iff_ne, bne_iff_ne, ne_eq, Bool.not_eq_true, Bool.not_eq_false, Bool.not_eq_eq_eq_not, Bool.not_true, Bool.not_false, Decidable.not_not, Int.not_lt, Int.not_le, gt_iff_lt, ge_iff_le, bne_eq_false_iff_eq] at hsp) <;> try subst hsp))
             | refine ⟨_, _, ok_slices_Index_Obj C l k hl, ?_⟩
             | fail)
  all_goals (conv => whnf)
  all_goals (first | (with_reducible refine tt_T ?_) | (with_reducible refine tt_F ?_) | (refine tt_B ?_; try simp (disch := omega) only [eqO, Ob.eta, Cl.eta, tt_true, tt_false, decide_eq_true_eq, decide_eq_false_iff_not, beq_iff_eq, beq_eq_false_iff_ne, bne_iff_ne, ne_eq, Bool.not_eq_true, Bool.not_eq_false, Bool.not_eq_eq_eq_not, Bool.not_true, Bool.not_false, Decidable.not_not, Int.not_lt, Int.not_le, gt_iff_lt, ge_iff_le, bne_eq_false_iff_eq, wrap_small])) <;> (exact idx_mem k l 0)
set_option maxHeartbeats 1000000 in
set_option maxRecDepth 100000 in
theorem ok_heap_objects (C : Laid P) (c : Cl) : OkC P G n_heap_objects [aC c] [] (.func (.func n_heap_objects_1) [] [.ref (encC c)]) := by
  refine ok_fn C (k_heap_objects C) rfl ?_
  repeat' (conv => whnf
           first
             | (with_reducible refine sC (by kernel_rfl) ?_)
             | ((first | with_reducible refine sB ?_ | with_reducible refine sG0 ?_ | with_reducible refine sG1 ?_ | refine sP (by rfl) ?_); first | refine oT ?_ | refine oF ?_ | (refine Or.inr (Or.inr ⟨fun hsp => ?_, fun hsp => ?_⟩) <;> (try simp only [eqO, Ob.eta, Cl.eta, tt_true, tt_false, decide_eq_true_eq, decide_eq_false_iff_not, beq_iff_eq, beq_eq_false_iff_ne, bne_iff_ne, ne_eq, Bool.not_eq_true, Bool.not_eq_false, Bool.not_eq_eq_eq_not, Bool.not_true, Bool.not_false, Decidable.not_not, Int.not_lt, Int.not_le, gt_iff_lt, ge_iff_le, bne_eq_false_iff_eq] at hsp) <;> try subst hsp))
             | fail)
  all_goals (conv => whnf)
  all_goals (exact PV.le.refl _)
set_option maxHeartbeats 4000000 in
set_option maxRecDepth 100000 in
theorem ok_heap_store_keyed (C : Laid P) (h : List Cl) (c : Cl) (hs : c.small) (hn : ∀ l ∈ objsOf c, ∀ o ∈ l, o.n < 9223372036854775808) : OkC P G n_heap_store_keyed [.agg [.sl 7 (List.map encC h)], aC c] [] (.bool (tt (keyedP h c))) := by
  refine ok_fnI C (k_heap_store_keyed C) rfl ?_
  repeat' (conv => whnf
           first
             | (with_reducible refine sC (by kernel_rfl) ?_)
             | ((first | with_reducible refine sB ?_ | with_reducible refine sG0 ?_ | with_reducible refine sG1 ?_ | refine sP (by rfl) ?_); first | refine oT ?_ | refine oF ?_ | (refine Or.inr (Or.inr ⟨fun hsp => ?_, fun hsp => ?_⟩) <;> (try simp only [eqO, Ob.eta, Cl.eta, tt_true, tt_false, decide_eq_true_eq, decide_eq_false_iff_not, beq_iff_eq, beq_eq_false_iff_ne, bne_iff_ne, ne_eq, Bool.not_eq_true, Bool.not_eq_false, Bool.not_eq_eq_eq_not, Bool.not_true, Bool.not_false, Decidable.not_not, Int.not_lt, Int.not_le, gt_iff_lt, ge_iff_le, bne_eq_false_iff_eq, List.length_map] at hsp) <;> try subst hsp))
             | refine ⟨_, _, ok_heap_objects C c, ?_⟩
             | fail)
  all_goals (conv => whnf)
  intro X hX hW
  obtain ⟨ls, hls⟩ : ∃ ls, ls = objsOf c := ⟨_, rfl⟩
  have hll : ls.length = 3 := by rw [hls]; rfl
  refine loopN hX hW (fun st (a : Nat) => st.upd [(14, .pv (pI (a : Int)))] []) (fun a k => a + k = ls.length ∧ ∀ j, j < a → ∀ l, ls[j]? = some l → ∀ o ∈ l, fits h o) 0 ls.length (by (conv => whnf); first | done | rfl) ⟨by simp, by intro j hj; omega⟩ ?_
  intro m a ih hI
  rcases at_or ls a with ⟨L, hlt, hx⟩ | hge
  · have hmem : L ∈ objsOf c := by rw [← hls]; exact List.mem_of_getElem? hx
    have hxx : [slO c.items, slO c.keys, slO c.vals][a]? = some (slO L) := by rw [show [slO c.items, slO c.keys, slO c.vals] = ls.map (fun l => slO l) by rw [hls]; rfl, List.getElem?_map, hx]; rfl
    have hLl : L.length ≤ 1000000 := by
      simp only [objsOf, List.mem_cons, List.not_mem_nil, or_false] at hmem
      obtain ⟨s1, s2, s3, s4⟩ := hs
      rcases hmem with rfl | rfl | rfl <;> omega
    have hLn := hn L hmem
    repeat' (conv => whnf
             first
               | (with_reducible refine sC (by kernel_rfl) ?_)
               | ((first | with_reducible refine sB ?_ | with_reducible refine sG0 ?_ | with_reducible refine sG1 ?_ | refine sP (by rfl) ?_); first | refine oT ?_ | refine oF ?_ | (refine Or.inr (Or.inr ⟨fun hsp => ?_, fun hsp => ?_⟩) <;> (try simp only [eqO, Ob.eta, Cl.eta, tt_true, tt_false, decide_eq_true_eq, decide_eq_false_iff_not, beq_iff_eq, beq_eq_false_iff_ne, bne_iff_ne, ne_eq, Bool.not_eq_true, Bool.not_eq_false, Bool.not_eq_eq_eq_not, Bool.not_true, Bool.not_false, Decidable.not_not, Int.not_lt, Int.not_le, gt_iff_lt, ge_iff_le, bne_eq_false_iff_eq, List.length_map] at hsp) <;> try subst hsp))
               | refine sS (index3_false (a := slO c.items) (b := slO c.keys) (c := slO c.vals) (y := slO L) hxx (by rfl) (by rfl) (by rfl)) ?_
               | fail)
    all_goals (conv => whnf)
    intro Y hY hWY
    refine loopN hY hWY (fun st (i : Nat) => st.upd [(19, .pv (pI (i : Int)))] []) (fun i k => i + k = L.length ∧ ∀ j, j < i → ∀ o, L[j]? = some o → fits h o) 0 L.length (by (conv => whnf); first | done | rfl) ⟨by simp, by intro j hj; omega⟩ ?_
    intro m2 i jh hJ
    rcases at_or L i with ⟨x, hlt2, hy⟩ | hge2
    · have hrow := row_map (f := encO) hy
      have hn1 := hLn x (List.mem_of_getElem? hy)
      have kF := ok_heap_Fits C h x hn1
      by_cases hf : fits h x
      · rw [show tt (fits h x) = true from tt_true.mpr hf] at kF
        repeat' (conv => whnf
                 first
                   | (with_reducible refine sC (by kernel_rfl) ?_)
                   | ((first | with_reducible refine sB ?_ | with_reducible refine sG0 ?_ | with_reducible refine sG1 ?_ | refine sP (by rfl) ?_); first | refine oT ?_ | refine oF ?_ | (refine Or.inr (Or.inr ⟨fun hsp => ?_, fun hsp => ?_⟩) <;> (try simp only [eqO, Ob.eta, Cl.eta, tt_true, tt_false, decide_eq_true_eq, decide_eq_false_iff_not, beq_iff_eq, beq_eq_false_iff_ne, bne_iff_ne, ne_eq, Bool.not_eq_true, Bool.not_eq_false, Bool.not_eq_eq_eq_not, Bool.not_true, Bool.not_false, Decidable.not_not, Int.not_lt, Int.not_le, gt_iff_lt, ge_iff_le, bne_eq_false_iff_eq, List.length_map] at hsp) <;> try subst hsp))
                   | refine ⟨_, _, kF, ?_⟩
                   | refine sS (iaddr_at (by rfl) (by rfl) (by omega) hrow) ?_
                   | fail)
        all_goals (conv => whnf)
        all_goals (refine jh (m2 - 1) (i + 1) _ (by omega) ⟨by (try dsimp only); omega, ?_⟩ (by (conv => whnf); first | done | rfl | (simp (disch := omega) only [wrap_succ])))
        all_goals (intro j hj o ho; by_cases e : j < i; (· exact hJ.2 j e o ho); have e2 : j = i := (by omega); subst e2; rw [hy] at ho; cases ho; exact hf)
      · rw [show tt (fits h x) = false from tt_false.mpr hf] at kF
        repeat' (conv => whnf
                 first
                   | (with_reducible refine sC (by kernel_rfl) ?_)
                   | ((first | with_reducible refine sB ?_ | with_reducible refine sG0 ?_ | with_reducible refine sG1 ?_ | refine sP (by rfl) ?_); first | refine oT ?_ | refine oF ?_ | (refine Or.inr (Or.inr ⟨fun hsp => ?_, fun hsp => ?_⟩) <;> (try simp only [eqO, Ob.eta, Cl.eta, tt_true, tt_false, decide_eq_true_eq, decide_eq_false_iff_not, beq_iff_eq, beq_eq_false_iff_ne, bne_iff_ne, ne_eq, Bool.not_eq_true, Bool.not_eq_false, Bool.not_eq_eq_eq_not, Bool.not_true, Bool.not_false, Decidable.not_not, Int.not_lt, Int.not_le, gt_iff_lt, ge_iff_le, bne_eq_false_iff_eq, List.length_map] at hsp) <;> try subst hsp))
                   | refine ⟨_, _, kF, ?_⟩
                   | refine sS (iaddr_at (by rfl) (by rfl) (by omega) hrow) ?_
                   | fail)
        all_goals (conv => whnf)
        all_goals exact tt_F (fun hp => hf (hp.1 L hmem x (List.mem_of_getElem? hy)))
    · repeat' (conv => whnf
               first
                 | (with_reducible refine sC (by kernel_rfl) ?_)
                 | ((first | with_reducible refine sB ?_ | with_reducible refine sG0 ?_ | with_reducible refine sG1 ?_ | refine sP (by rfl) ?_); first | refine oT ?_ | refine oF ?_ | (refine Or.inr (Or.inr ⟨fun hsp => ?_, fun hsp => ?_⟩) <;> (try simp only [eqO, Ob.eta, Cl.eta, tt_true, tt_false, decide_eq_true_eq, decide_eq_false_iff_not, beq_iff_eq, beq_eq_false_iff_ne, bne_iff_ne, ne_eq, Bool.not_eq_true, Bool.not_eq_false, Bool.not_eq_eq_eq_not, Bool.not_true, Bool.not_false, Decidable.not_not, Int.not_lt, Int.not_le, gt_iff_lt, ge_iff_le, bne_eq_false_iff_eq, List.length_map] at hsp) <;> try subst hsp))
                 | fail)
      all_goals (conv => whnf)
      all_goals (refine ih (m - 1) (a + 1) _ (by omega) ⟨by (try dsimp only); omega, ?_⟩ (by (conv => whnf); first | done | rfl | (simp (disch := omega) only [wrap_succ])))
      all_goals (intro j hj l hl o ho; by_cases e : j < a; (· exact hI.2 j e l hl o ho); have e2 : j = a := (by omega); subst e2; rw [hx] at hl; cases hl; obtain ⟨q, hq⟩ := List.getElem?_of_mem ho; exact hJ.2 q (by have := (List.getElem?_eq_some_iff.1 hq).1; omega) o hq)
  · have hall : ∀ l ∈ objsOf c, ∀ o ∈ l, fits h o := by
      intro l hl o ho
      rw [← hls] at hl
      obtain ⟨q, hq⟩ := List.getElem?_of_mem hl
      exact hI.2 q (by have := (List.getElem?_eq_some_iff.1 hq).1; omega) l hq o ho
    have hkn : ∀ o ∈ c.keys, o.n < 9223372036854775808 := hn c.keys (by simp [objsOf])
    obtain ⟨s1, s2, s3, s4⟩ := hs
    repeat' (conv => whnf
             first
               | (with_reducible refine sC (by kernel_rfl) ?_)
               | ((first | with_reducible refine sB ?_ | with_reducible refine sG0 ?_ | with_reducible refine sG1 ?_ | refine sP (by rfl) ?_); first | refine oT ?_ | refine oF ?_ | (refine Or.inr (Or.inr ⟨fun hsp => ?_, fun hsp => ?_⟩) <;> (try simp only [eqO, Ob.eta, Cl.eta, tt_true, tt_false, decide_eq_true_eq, decide_eq_false_iff_not, beq_iff_eq, beq_eq_false_iff_ne, bne_iff_ne, ne_eq, Bool.not_eq_true, Bool.not_eq_false, Bool.not_eq_eq_eq_not, Bool.not_true, Bool.not_false, Decidable.not_not, Int.not_lt, Int.not_le, gt_iff_lt, ge_iff_le, bne_eq_false_iff_eq, List.length_map] at hsp) <;> try subst hsp))
               | fail)
    all_goals (conv => whnf)
    intro Z hZ hWZ
    refine loopI hZ (fun st (i : Nat) => st.upd [(21, .pv (pI (i : Int)))] []) (fun i k => i + k = c.keys.length ∧ ∀ j, j < i → ∀ o, c.keys[j]? = some o → oKey o = (o, 0) ∧ ¬ o ∈ c.keys.take j) 0 c.keys.length (by (conv => whnf); first | done | rfl) ⟨by simp, by intro j hj; omega⟩ ?_
    intro m2 i jh hJ
    rcases at_or c.keys i with ⟨x, hlt2, hy⟩ | hge2
    · have hrow := row_map (f := encO) hy
      have kK := ok_object_Key C x (hkn x (List.mem_of_getElem? hy))
      have kC := ok_slices_Contains_Obj C (c.keys.take i) x (by rw [List.length_take]; omega)
      by_cases hk : oKey x = (x, 0)
      · rw [hk] at kK
        by_cases hm : x ∈ c.keys.take i
        · rw [show tt (x ∈ c.keys.take i) = true from tt_true.mpr hm] at kC
          repeat' (conv => whnf
                   first
                     | (with_reducible refine sC (by kernel_rfl) ?_)
                     | ((first | with_reducible refine sB ?_ | with_reducible refine sG0 ?_ | with_reducible refine sG1 ?_ | refine sP (by rfl) ?_); first | refine oT ?_ | refine oF ?_ | (refine Or.inr (Or.inr ⟨fun hsp => ?_, fun hsp => ?_⟩) <;> (try simp only [eqO, Ob.eta, Cl.eta, tt_true, tt_false, decide_eq_true_eq, decide_eq_false_iff_not, beq_iff_eq, beq_eq_false_iff_ne, bne_iff_ne, ne_eq, Bool.not_eq_true, Bool.not_eq_false, Bool.not_eq_eq_eq_not, Bool.not_true, Bool.not_false, Decidable.not_not, Int.not_lt, Int.not_le, gt_iff_lt, ge_iff_le, bne_eq_false_iff_eq, List.length_map] at hsp) <;> try subst hsp))
                     | refine ⟨_, _, kK, ?_⟩
                     | refine ⟨_, _, kC, ?_⟩
                     | refine sS (iaddr_at (by rfl) (by rfl) (by omega) hrow) ?_
                     | refine sS (slice_M (f := encO) (l := c.keys) (a := 0) (h := (i : Int)) (by rfl) (by rfl) (by rfl) (by omega) (by omega) (by omega)) ?_
                     | fail)
          all_goals (conv => whnf)
          all_goals exact tt_F (fun hp => (hp.2 i x hy).2 hm)
        · rw [show tt (x ∈ c.keys.take i) = false from tt_false.mpr hm] at kC
          repeat' (conv => whnf
                   first
                     | (with_reducible refine sC (by kernel_rfl) ?_)
                     | ((first | with_reducible refine sB ?_ | with_reducible refine sG0 ?_ | with_reducible refine sG1 ?_ | refine sP (by rfl) ?_); first | refine oT ?_ | refine oF ?_ | (refine Or.inr (Or.inr ⟨fun hsp => ?_, fun hsp => ?_⟩) <;> (try simp only [eqO, Ob.eta, Cl.eta, tt_true, tt_false, decide_eq_true_eq, decide_eq_false_iff_not, beq_iff_eq, beq_eq_false_iff_ne, bne_iff_ne, ne_eq, Bool.not_eq_true, Bool.not_eq_false, Bool.not_eq_eq_eq_not, Bool.not_true, Bool.not_false, Decidable.not_not, Int.not_lt, Int.not_le, gt_iff_lt, ge_iff_le, bne_eq_false_iff_eq, List.length_map] at hsp) <;> try subst hsp))
                     | refine ⟨_, _, kK, ?_⟩
                     | refine ⟨_, _, kC, ?_⟩
                     | refine sS (iaddr_at (by rfl) (by rfl) (by omega) hrow) ?_
                     | refine sS (slice_M (f := encO) (l := c.keys) (a := 0) (h := (i : Int)) (by rfl) (by rfl) (by rfl) (by omega) (by omega) (by omega)) ?_
                     | fail)
          all_goals (conv => whnf)
          all_goals (refine jh (m2 - 1) (i + 1) _ (by omega) ⟨by (try dsimp only); omega, ?_⟩ (by (conv => whnf); first | done | rfl | (simp (disch := omega) only [wrap_succ])))
          all_goals (intro j hj o ho; by_cases e : j < i; (· exact hJ.2 j e o ho); have e2 : j = i := (by omega); subst e2; rw [hy] at ho; cases ho; exact ⟨hk, hm⟩)
      · repeat' (conv => whnf
                 first
                   | (with_reducible refine sC (by kernel_rfl) ?_)
                   | ((first | with_reducible refine sB ?_ | with_reducible refine sG0 ?_ | with_reducible refine sG1 ?_ | refine sP (by rfl) ?_); first | refine oT ?_ | refine oF ?_ | (refine Or.inr (Or.inr ⟨fun hsp => ?_, fun hsp => ?_⟩) <;> (try simp only [eqO, Ob.eta, Cl.eta, tt_true, tt_false, decide_eq_true_eq, decide_eq_false_iff_not, beq_iff_eq, beq_eq_false_iff_ne, bne_iff_ne, ne_eq, Bool.not_eq_true, Bool.not_eq_false, Bool.not_eq_eq_eq_not, Bool.not_true, Bool.not_false, Decidable.not_not, Int.not_lt, Int.not_le, gt_iff_lt, ge_iff_le, bne_eq_false_iff_eq, List.length_map] at hsp) <;> try subst hsp))
                   | refine ⟨_, _, kK, ?_⟩
                   | refine ⟨_, _, kC, ?_⟩
                   | refine sS (iaddr_at (by rfl) (by rfl) (by omega) hrow) ?_
                   | refine sS (slice_M (f := encO) (l := c.keys) (a := 0) (h := (i : Int)) (by rfl) (by rfl) (by rfl) (by omega) (by omega) (by omega)) ?_
                   | fail)
        all_goals (conv => whnf)
        all_goals first
          | exact tt_F (fun hp => hk (hp.2 i x hy).1)
          | (exfalso; exact hk (Prod.ext (by assumption) (by assumption)))
          | (exfalso; apply hk; grind)
    · repeat' (conv => whnf
               first
                 | (with_reducible refine sC (by kernel_rfl) ?_)
                 | ((first | with_reducible refine sB ?_ | with_reducible refine sG0 ?_ | with_reducible refine sG1 ?_ | refine sP (by rfl) ?_); first | refine oT ?_ | refine oF ?_ | (refine Or.inr (Or.inr ⟨fun hsp => ?_, fun hsp => ?_⟩) <;> (try simp only [eqO, Ob.eta, Cl.eta, tt_true, tt_false, decide_eq_true_eq, decide_eq_false_iff_not, beq_iff_eq, beq_eq_false_iff_ne, bne_iff_ne, ne_eq, Bool.not_eq_true, Bool.not_eq_false, Bool.not_eq_eq_eq_not, Bool.not_true, Bool.not_false, Decidable.not_not, Int.not_lt, Int.not_le, gt_iff_lt, ge_iff_le, bne_eq_false_iff_eq, List.length_map] at hsp) <;> try subst hsp))
                 | fail)
      all_goals (conv => whnf)
      all_goals exact tt_T ⟨hall, fun q k hq => hJ.2 q (by have := (List.getElem?_eq_some_iff.1 hq).1; omega) k hq⟩

end Go.Ab.Td

/- Valid heaps: the program. Under: nothing. -/
namespace Go.Ab.Td
open Go Go.Ab
variable {P : Program}
set_option linter.unusedSimpArgs false
attribute [local irreducible] compat
open Classical in
/-- A cell has only the fields of its kind. -/
def bareP (c : Cl) : Prop :=
  (c.kind = 1 ∧ (c.items.length + c.keys.length + c.vals.length = 0 ∧ c.max = 0 ∧ c.at' = 0)) ∨ (c.kind = 2 ∧ (c.bytes = [] ∧ c.keys.length + c.vals.length = 0 ∧ c.max = 0 ∧ c.at' = 0)) ∨
  (c.kind = 3 ∧ (c.bytes = [] ∧ c.items.length = 0 ∧ c.at' = 0)) ∨ (c.kind = 4 ∧ c.items.length + c.keys.length + c.vals.length = 0)
/-- A cell is within the limits of its kind. -/
def limP (c : Cl) : Prop :=
  if c.kind = 1 then c.bytes.length ≤ 1000 else if c.kind = 2 then c.items.length ≤ 1000
  else if c.kind = 3 then 0 ≤ c.max ∧ c.max ≤ 200 ∧ c.keys.length = c.vals.length ∧ (c.keys.length : Int) ≤ c.max
  else c.bytes.length ≤ 4000 ∧ 0 ≤ c.at' ∧ c.at' ≤ c.bytes.length ∧ (c.max = 0 ∨ c.max = 1)
open Classical in
/-- What Check answers. -/
noncomputable def chkE (h : List Cl) : Int := if totFrom 0 h > 20000 then 210 else if ∀ c ∈ h, bareP c ∧ limP c ∧ keyedP h c then 0 else 210


set_option maxHeartbeats 1000000 in
set_option maxRecDepth 100000 in
theorem ok_heap_store_bare (C : Laid P) (h : List Cl) (c : Cl) (hs : c.small) : OkC P G n_heap_store_bare [.agg [.sl 7 (List.map encC h)], aC c] [] (.bool (tt (bareP c))) := by
  refine ok_fn C (k_heap_store_bare C) rfl ?_
  obtain ⟨s1, s2, s3, s4⟩ := hs
  have w1 : IntKind.i64.wrap ((c.keys.length : Int) + c.vals.length) = (c.keys.length : Int) + c.vals.length := wrap_small (by omega) (by omega)
  have w2 : IntKind.i64.wrap ((c.items.length : Int) + ((c.keys.length : Int) + c.vals.length)) = (c.items.length : Int) + ((c.keys.length : Int) + c.vals.length) := wrap_small (by omega) (by omega)
  have w3 : IntKind.i64.wrap (c.items.length : Int) = (c.items.length : Int) := wrap_small (by omega) (by omega)
  have q : (c.kind = 1 ∧ bareP c = (c.items.length + c.keys.length + c.vals.length = 0 ∧ c.max = 0 ∧ c.at' = 0)) ∨ (c.kind = 2 ∧ bareP c = (c.bytes = [] ∧ c.keys.length + c.vals.length = 0 ∧ c.max = 0 ∧ c.at' = 0)) ∨ (c.kind = 3 ∧ bareP c = (c.bytes = [] ∧ c.items.length = 0 ∧ c.at' = 0)) ∨ (c.kind = 4 ∧ bareP c = (c.items.length + c.keys.length + c.vals.length = 0)) ∨ ((c.kind ≠ 1 ∧ c.kind ≠ 2 ∧ c.kind ≠ 3 ∧ c.kind ≠ 4) ∧ bareP c = False) := by
    by_cases h1 : c.kind = 1
    · exact .inl ⟨h1, by simp [bareP, h1]⟩
    by_cases h2 : c.kind = 2
    · exact .inr (.inl ⟨h2, by simp [bareP, h2]⟩)
    by_cases h3 : c.kind = 3
    · exact .inr (.inr (.inl ⟨h3, by simp [bareP, h3]⟩))
    by_cases h4 : c.kind = 4
    · exact .inr (.inr (.inr (.inl ⟨h4, by simp [bareP, h4]⟩)))
    · exact .inr (.inr (.inr (.inr ⟨⟨h1, h2, h3, h4⟩, by simp [bareP, h1, h2, h3, h4]⟩)))
  rcases q with ⟨hk, e⟩ | ⟨hk, e⟩ | ⟨hk, e⟩ | ⟨hk, e⟩ | ⟨hk, e⟩
  all_goals rw [e]
  repeat' (conv => whnf
           first
             | (with_reducible refine sC (by kernel_rfl) ?_)
             | ((first | with_reducible refine sB ?_ | with_reducible refine sG0 ?_ | with_reducible refine sG1 ?_ | refine sP (by rfl) ?_); first | refine Or.inl ⟨by first | assumption | (simp only [eqO, Ob.eta, Cl.eta, tt_true, tt_false, decide_eq_true_eq, decide_eq_false_iff_not, beq_iff_eq, beq_eq_false_iff_ne, bne_iff_ne, ne_eq, Bool.not_eq_true, Bool.not_eq_false, Bool.not_eq_eq_eq_not, Bool.not_true, Bool.not_false, Decidable.not_not, Int.not_lt, Int.not_le, gt_iff_lt, ge_iff_le, bne_eq_false_iff_eq, List.length_map, w1, w2]; first | done | assumption | omega), ?_⟩ | refine Or.inr (Or.inl ⟨by first | assumption | (simp only [eqO, Ob.eta, Cl.eta, tt_true, tt_false, decide_eq_true_eq, decide_eq_false_iff_not, beq_iff_eq, beq_eq_false_iff_ne, bne_iff_ne, ne_eq, Bool.not_eq_true, Bool.not_eq_false, Bool.not_eq_eq_eq_not, Bool.not_true, Bool.not_false, Decidable.not_not, Int.not_lt, Int.not_le, gt_iff_lt, ge_iff_le, bne_eq_false_iff_eq, List.length_map, w1, w2]; first | done | assumption | omega), ?_⟩) | (refine Or.inr (Or.inr ⟨fun hsp => ?_, fun hsp => ?_⟩) <;> (try simp only [eqO, Ob.eta, Cl.eta, tt_true, tt_false, decide_eq_true_eq, decide_eq_false_iff_not, beq_iff_eq, beq_eq_false_iff_ne, bne_iff_ne, ne_eq, Bool.not_eq_true, Bool.not_eq_false, Bool.not_eq_eq_eq_not, Bool.not_true, Bool.not_false, Decidable.not_not, Int.not_lt, Int.not_le, gt_iff_lt, ge_iff_le, bne_eq_false_iff_eq, List.length_map, w1, w2] at hsp) <;> try subst hsp))
             | fail)
  all_goals (conv => whnf)
  all_goals (first | (with_reducible refine tt_T ?_) | (with_reducible refine tt_F ?_) | (refine tt_B ?_; try simp (disch := omega) only [eqO, Ob.eta, Cl.eta, tt_true, tt_false, decide_eq_true_eq, decide_eq_false_iff_not, beq_iff_eq, beq_eq_false_iff_ne, bne_iff_ne, ne_eq, Bool.not_eq_true, Bool.not_eq_false, Bool.not_eq_eq_eq_not, Bool.not_true, Bool.not_false, Decidable.not_not, Int.not_lt, Int.not_le, gt_iff_lt, ge_iff_le, bne_eq_false_iff_eq, wrap_small, List.length_map, w1, w2, w3])) <;> (first | omega | (refine ⟨?_, ?_, ?_⟩ <;> first | assumption | omega) | (refine ⟨?_, ?_, ?_, ?_⟩ <;> first | assumption | omega) | (rintro ⟨h1, h2, h3⟩; first | contradiction | omega) | (rintro ⟨h1, h2, h3, h4⟩; first | contradiction | omega) | (constructor <;> intro hq <;> first | omega | (refine ⟨?_, ?_, ?_⟩ <;> first | assumption | omega) | (refine ⟨?_, ?_, ?_, ?_⟩ <;> first | assumption | omega)) | grind)
set_option maxHeartbeats 1000000 in
set_option maxRecDepth 100000 in
theorem ok_heap_store_limited (C : Laid P) (h : List Cl) (c : Cl) : OkC P G n_heap_store_limited [.agg [.sl 7 (List.map encC h)], aC c] [] (.bool (tt (limP c))) := by
  refine ok_fn C (k_heap_store_limited C) rfl ?_
  repeat' (conv => whnf
           first
             | (with_reducible refine sC (by kernel_rfl) ?_)
             | ((first | with_reducible refine sB ?_ | with_reducible refine sG0 ?_ | with_reducible refine sG1 ?_ | refine sP (by rfl) ?_); first | refine oT ?_ | refine oF ?_ | (refine Or.inr (Or.inr ⟨fun hsp => ?_, fun hsp => ?_⟩) <;> (try simp only [eqO, Ob.eta, Cl.eta, tt_true, tt_false, decide_eq_true_eq, decide_eq_false_iff_not, beq_iff_eq, beq_eq_false_iff_ne, bne_iff_ne, ne_eq, Bool.not_eq_true, Bool.not_eq_false, Bool.not_eq_eq_eq_not, Bool.not_true, Bool.not_false, Decidable.not_not, Int.not_lt, Int.not_le, gt_iff_lt, ge_iff_le, bne_eq_false_iff_eq, List.length_map] at hsp) <;> try subst hsp))
             | fail)
  all_goals (conv => whnf)
  all_goals (first | (with_reducible refine tt_T ?_) | (with_reducible refine tt_F ?_) | (refine tt_B ?_; try simp (disch := omega) only [eqO, Ob.eta, Cl.eta, tt_true, tt_false, decide_eq_true_eq, decide_eq_false_iff_not, beq_iff_eq, beq_eq_false_iff_ne, bne_iff_ne, ne_eq, Bool.not_eq_true, Bool.not_eq_false, Bool.not_eq_eq_eq_not, Bool.not_true, Bool.not_false, Decidable.not_not, Int.not_lt, Int.not_le, gt_iff_lt, ge_iff_le, bne_eq_false_iff_eq, wrap_small, List.length_map])) <;> (grind [limP])
set_option maxHeartbeats 1000000 in
set_option maxRecDepth 100000 in
theorem ok_heap_Total (C : Laid P) (h : List Cl) (hl : h.length < 2 ^ 62) : OkC P G n_heap_Total [.sl 7 (List.map encC h)] [] (pI (totFrom 0 h)) := by
  refine ok_fn C (k_heap_Total C) rfl ?_
  repeat' (conv => whnf
           first
             | (with_reducible refine sC (by kernel_rfl) ?_)
             | ((first | with_reducible refine sB ?_ | with_reducible refine sG0 ?_ | with_reducible refine sG1 ?_ | refine sP (by rfl) ?_); first | refine oT ?_ | refine oF ?_ | (refine Or.inr (Or.inr ⟨fun hsp => ?_, fun hsp => ?_⟩) <;> (try simp only [eqO, Ob.eta, Cl.eta, tt_true, tt_false, decide_eq_true_eq, decide_eq_false_iff_not, beq_iff_eq, beq_eq_false_iff_ne, bne_iff_ne, ne_eq, Bool.not_eq_true, Bool.not_eq_false, Bool.not_eq_eq_eq_not, Bool.not_true, Bool.not_false, Decidable.not_not, Int.not_lt, Int.not_le, gt_iff_lt, ge_iff_le, bne_eq_false_iff_eq] at hsp) <;> try subst hsp))
             | fail)
  all_goals (conv => whnf)
  intro X hX hW
  refine loopI hX (fun st (a : Nat × Int) => st.upd [(3, .pv (pI a.2)), (8, .pv (pI (a.1 : Int)))] []) (fun a m => a.1 + m = h.length ∧ (totFrom 0 h = totFrom a.2 (h.drop a.1))) (0, 0) h.length (by (conv => whnf); first | done | rfl) (by simp) ?_
  intro m a ih hI
  rcases at_or h a.1 with ⟨x, hlt, hx⟩ | hge
  · have hrow := row_map (f := encC) hx
    have hd := drop_at hx
    have hI2 := hI.2
    rw [hd] at hI2
    simp only [totFrom] at hI2
    repeat' (conv => whnf
             first
               | (with_reducible refine sC (by kernel_rfl) ?_)
               | ((first | with_reducible refine sB ?_ | with_reducible refine sG0 ?_ | with_reducible refine sG1 ?_ | refine sP (by rfl) ?_); first | refine oT ?_ | refine oF ?_ | (refine Or.inr (Or.inr ⟨fun hsp => ?_, fun hsp => ?_⟩) <;> (try simp only [eqO, Ob.eta, Cl.eta, tt_true, tt_false, decide_eq_true_eq, decide_eq_false_iff_not, beq_iff_eq, beq_eq_false_iff_ne, bne_iff_ne, ne_eq, Bool.not_eq_true, Bool.not_eq_false, Bool.not_eq_eq_eq_not, Bool.not_true, Bool.not_false, Decidable.not_not, Int.not_lt, Int.not_le, gt_iff_lt, ge_iff_le, bne_eq_false_iff_eq, List.length_map] at hsp) <;> try subst hsp))
               | refine ⟨_, _, ok_heap_Size_f C x.kind x.bytes x.items x.keys x.vals x.max x.at', ?_⟩
               | refine sS (iaddr_at (by rfl) (by rfl) (by omega) hrow) ?_
               | fail)
    all_goals (conv => whnf)
    all_goals first
      | (refine ih (m - 1) (a.1 + 1, (IntKind.i64.wrap (a.2 + x.size))) _ (by omega) ⟨by (try dsimp only); omega, ?_⟩ (by (conv => whnf); first | done | rfl | (simp (disch := omega) only [wrap_succ])))
      | (with_reducible first | refine le_int ?_ | refine tt_T ?_ | refine tt_F ?_)
      | (refine tt_B ?_; simp only [eqO, Ob.eta, Cl.eta, tt_true, tt_false, decide_eq_true_eq, decide_eq_false_iff_not, beq_iff_eq, beq_eq_false_iff_ne, bne_iff_ne, ne_eq, Bool.not_eq_true, Bool.not_eq_false, Bool.not_eq_eq_eq_not, Bool.not_true, Bool.not_false, Decidable.not_not, Int.not_lt, Int.not_le, gt_iff_lt, ge_iff_le, bne_eq_false_iff_eq])
      | refine le_of_eq ?_
    all_goals grind
  · have hd : h.drop a.1 = [] := List.drop_eq_nil_of_le hge
    have hI2 := hI.2
    rw [hd] at hI2
    simp only [totFrom] at hI2
    repeat' (conv => whnf
             first
               | (with_reducible refine sC (by kernel_rfl) ?_)
               | ((first | with_reducible refine sB ?_ | with_reducible refine sG0 ?_ | with_reducible refine sG1 ?_ | refine sP (by rfl) ?_); first | refine oT ?_ | refine oF ?_ | (refine Or.inr (Or.inr ⟨fun hsp => ?_, fun hsp => ?_⟩) <;> (try simp only [eqO, Ob.eta, Cl.eta, tt_true, tt_false, decide_eq_true_eq, decide_eq_false_iff_not, beq_iff_eq, beq_eq_false_iff_ne, bne_iff_ne, ne_eq, Bool.not_eq_true, Bool.not_eq_false, Bool.not_eq_eq_eq_not, Bool.not_true, Bool.not_false, Decidable.not_not, Int.not_lt, Int.not_le, gt_iff_lt, ge_iff_le, bne_eq_false_iff_eq, List.length_map] at hsp) <;> try subst hsp))
               | refine ⟨_, _, ok_heap_Size_f C x.kind x.bytes x.items x.keys x.vals x.max x.at', ?_⟩
               | fail)
    all_goals (conv => whnf)
    all_goals first
      | (with_reducible first | refine le_int ?_ | refine tt_T ?_ | refine tt_F ?_)
      | (refine tt_B ?_; simp only [eqO, Ob.eta, Cl.eta, tt_true, tt_false, decide_eq_true_eq, decide_eq_false_iff_not, beq_iff_eq, beq_eq_false_iff_ne, bne_iff_ne, ne_eq, Bool.not_eq_true, Bool.not_eq_false, Bool.not_eq_eq_eq_not, Bool.not_true, Bool.not_false, Decidable.not_not, Int.not_lt, Int.not_le, gt_iff_lt, ge_iff_le, bne_eq_false_iff_eq])
      | refine le_of_eq ?_
    all_goals grind
end Go.Ab.Td

/- Valid heaps: Check. Under: nothing. -/
namespace Go.Ab.Td
open Go Go.Ab
variable {P : Program}
set_option linter.unusedSimpArgs false
attribute [local irreducible] compat
/-- A cell that is valid in a heap, as the program sees it. -/
def okCell (h : List Cl) (c : Cl) : Prop := bareP c ∧ limP c ∧ keyedP h c
theorem chk_bad {h : List Cl} (ht : ¬ totFrom 0 h > 20000) {c : Cl} (hc : c ∈ h) (hb : ¬ okCell h c) : chkE h = 210 := by
  unfold chkE
  rw [if_neg ht, if_neg (fun hp => hb (hp c hc))]


set_option maxHeartbeats 4000000 in
set_option maxRecDepth 100000 in
theorem ok_heap_Check (C : Laid P) (h : List Cl) (hs : small h) (hn : ∀ c ∈ h, ∀ l ∈ objsOf c, ∀ o ∈ l, o.n < 9223372036854775808) : OkC P G n_heap_Check [.sl 7 (List.map encC h)] [] (pI (chkE h)) := by
  refine ok_fn C (k_heap_Check C) rfl ?_
  have hl : h.length < 2 ^ 62 := by have := hs.1; omega
  by_cases ht : totFrom 0 h > 20000
  · have e : chkE h = 210 := by unfold chkE; rw [if_pos ht]
    rw [e]
    repeat' (conv => whnf
             first
               | (with_reducible refine sC (by kernel_rfl) ?_)
               | ((first | with_reducible refine sB ?_ | with_reducible refine sG0 ?_ | with_reducible refine sG1 ?_ | refine sP (by rfl) ?_); first | refine oT ?_ | refine oF ?_ | (refine Or.inr (Or.inr ⟨fun hsp => ?_, fun hsp => ?_⟩) <;> (try simp only [eqO, Ob.eta, Cl.eta, tt_true, tt_false, decide_eq_true_eq, decide_eq_false_iff_not, beq_iff_eq, beq_eq_false_iff_ne, bne_iff_ne, ne_eq, Bool.not_eq_true, Bool.not_eq_false, Bool.not_eq_eq_eq_not, Bool.not_true, Bool.not_false, Decidable.not_not, Int.not_lt, Int.not_le, gt_iff_lt, ge_iff_le, bne_eq_false_iff_eq, List.length_map] at hsp) <;> try subst hsp))
               | refine ⟨_, _, ok_heap_Total C h hl, ?_⟩
               | fail)
    all_goals (conv => whnf)
    all_goals exact PV.le.refl _
  · repeat' (conv => whnf
             first
               | (with_reducible refine sC (by kernel_rfl) ?_)
               | ((first | with_reducible refine sB ?_ | with_reducible refine sG0 ?_ | with_reducible refine sG1 ?_ | refine sP (by rfl) ?_); first | refine oT ?_ | refine oF ?_ | (refine Or.inr (Or.inr ⟨fun hsp => ?_, fun hsp => ?_⟩) <;> (try simp only [eqO, Ob.eta, Cl.eta, tt_true, tt_false, decide_eq_true_eq, decide_eq_false_iff_not, beq_iff_eq, beq_eq_false_iff_ne, bne_iff_ne, ne_eq, Bool.not_eq_true, Bool.not_eq_false, Bool.not_eq_eq_eq_not, Bool.not_true, Bool.not_false, Decidable.not_not, Int.not_lt, Int.not_le, gt_iff_lt, ge_iff_le, bne_eq_false_iff_eq, List.length_map] at hsp) <;> try subst hsp))
               | refine ⟨_, _, ok_heap_Total C h hl, ?_⟩
               | fail)
    all_goals (conv => whnf)
    intro X hX hW
    refine loopI hX (fun st (i : Nat) => st.upd [(16, .pv (pI (i : Int)))] []) (fun i k => i + k = h.length ∧ ∀ j, j < i → ∀ c, h[j]? = some c → okCell h c) 0 h.length (by (conv => whnf); first | done | rfl) ⟨by simp, by intro j hj; omega⟩ ?_
    intro m i ih hI
    rcases at_or h i with ⟨x, hlt, hx⟩ | hge
    · have hrow := row_map (f := encC) hx
      have hm := List.mem_of_getElem? hx
      have kB := ok_heap_store_bare C h x (hs.2 x hm)
      have kL := ok_heap_store_limited C h x
      have kK := ok_heap_store_keyed C h x (hs.2 x hm) (hn x hm)
      by_cases hb : bareP x
      · rw [show tt (bareP x) = true from tt_true.mpr hb] at kB
        by_cases hli : limP x
        · rw [show tt (limP x) = true from tt_true.mpr hli] at kL
          by_cases hk : keyedP h x
          · rw [show tt (keyedP h x) = true from tt_true.mpr hk] at kK
            repeat' (conv => whnf
                     first
                       | (with_reducible refine sC (by kernel_rfl) ?_)
                       | ((first | with_reducible refine sB ?_ | with_reducible refine sG0 ?_ | with_reducible refine sG1 ?_ | refine sP (by rfl) ?_); first | refine oT ?_ | refine oF ?_ | (refine Or.inr (Or.inr ⟨fun hsp => ?_, fun hsp => ?_⟩) <;> (try simp only [eqO, Ob.eta, Cl.eta, tt_true, tt_false, decide_eq_true_eq, decide_eq_false_iff_not, beq_iff_eq, beq_eq_false_iff_ne, bne_iff_ne, ne_eq, Bool.not_eq_true, Bool.not_eq_false, Bool.not_eq_eq_eq_not, Bool.not_true, Bool.not_false, Decidable.not_not, Int.not_lt, Int.not_le, gt_iff_lt, ge_iff_le, bne_eq_false_iff_eq, List.length_map] at hsp) <;> try subst hsp))
                       | refine ⟨_, _, kB, ?_⟩
                       | refine ⟨_, _, kL, ?_⟩
                       | refine ⟨_, _, kK, ?_⟩
                       | (intro Y hY hWY)
                       | refine hY _ ?_
                       | refine sS (iaddr_at (by rfl) (by rfl) (by omega) hrow) ?_
                       | fail)
            all_goals (conv => whnf)
            all_goals (refine ih (m - 1) (i + 1) _ (by omega) ⟨by (try dsimp only); omega, ?_⟩ (by (conv => whnf); first | done | rfl | (simp (disch := omega) only [wrap_succ])))
            all_goals (intro j hj c hc; by_cases e : j < i; (· exact hI.2 j e c hc); have e2 : j = i := (by omega); subst e2; rw [hx] at hc; cases hc; exact ⟨hb, hli, hk⟩)
          · rw [show tt (keyedP h x) = false from tt_false.mpr hk] at kK
            rw [chk_bad ht hm (fun hp => hk hp.2.2)]
            repeat' (conv => whnf
                     first
                       | (with_reducible refine sC (by kernel_rfl) ?_)
                       | ((first | with_reducible refine sB ?_ | with_reducible refine sG0 ?_ | with_reducible refine sG1 ?_ | refine sP (by rfl) ?_); first | refine oT ?_ | refine oF ?_ | (refine Or.inr (Or.inr ⟨fun hsp => ?_, fun hsp => ?_⟩) <;> (try simp only [eqO, Ob.eta, Cl.eta, tt_true, tt_false, decide_eq_true_eq, decide_eq_false_iff_not, beq_iff_eq, beq_eq_false_iff_ne, bne_iff_ne, ne_eq, Bool.not_eq_true, Bool.not_eq_false, Bool.not_eq_eq_eq_not, Bool.not_true, Bool.not_false, Decidable.not_not, Int.not_lt, Int.not_le, gt_iff_lt, ge_iff_le, bne_eq_false_iff_eq, List.length_map] at hsp) <;> try subst hsp))
                       | refine ⟨_, _, kB, ?_⟩
                       | refine ⟨_, _, kL, ?_⟩
                       | refine ⟨_, _, kK, ?_⟩
                       | (intro Y hY hWY)
                       | refine hY _ ?_
                       | refine sS (iaddr_at (by rfl) (by rfl) (by omega) hrow) ?_
                       | fail)
            all_goals (conv => whnf)
            all_goals exact PV.le.refl _
        · rw [show tt (limP x) = false from tt_false.mpr hli] at kL
          rw [chk_bad ht hm (fun hp => hli hp.2.1)]
          repeat' (conv => whnf
                   first
                     | (with_reducible refine sC (by kernel_rfl) ?_)
                     | ((first | with_reducible refine sB ?_ | with_reducible refine sG0 ?_ | with_reducible refine sG1 ?_ | refine sP (by rfl) ?_); first | refine oT ?_ | refine oF ?_ | (refine Or.inr (Or.inr ⟨fun hsp => ?_, fun hsp => ?_⟩) <;> (try simp only [eqO, Ob.eta, Cl.eta, tt_true, tt_false, decide_eq_true_eq, decide_eq_false_iff_not, beq_iff_eq, beq_eq_false_iff_ne, bne_iff_ne, ne_eq, Bool.not_eq_true, Bool.not_eq_false, Bool.not_eq_eq_eq_not, Bool.not_true, Bool.not_false, Decidable.not_not, Int.not_lt, Int.not_le, gt_iff_lt, ge_iff_le, bne_eq_false_iff_eq, List.length_map] at hsp) <;> try subst hsp))
                     | refine ⟨_, _, kB, ?_⟩
                     | refine ⟨_, _, kL, ?_⟩
                     | refine ⟨_, _, kK, ?_⟩
                     | (intro Y hY hWY)
                     | refine hY _ ?_
                     | refine sS (iaddr_at (by rfl) (by rfl) (by omega) hrow) ?_
                     | fail)
          all_goals (conv => whnf)
          all_goals exact PV.le.refl _
      · rw [show tt (bareP x) = false from tt_false.mpr hb] at kB
        rw [chk_bad ht hm (fun hp => hb hp.1)]
        repeat' (conv => whnf
                 first
                   | (with_reducible refine sC (by kernel_rfl) ?_)
                   | ((first | with_reducible refine sB ?_ | with_reducible refine sG0 ?_ | with_reducible refine sG1 ?_ | refine sP (by rfl) ?_); first | refine oT ?_ | refine oF ?_ | (refine Or.inr (Or.inr ⟨fun hsp => ?_, fun hsp => ?_⟩) <;> (try simp only [eqO, Ob.eta, Cl.eta, tt_true, tt_false, decide_eq_true_eq, decide_eq_false_iff_not, beq_iff_eq, beq_eq_false_iff_ne, bne_iff_ne, ne_eq, Bool.not_eq_true, Bool.not_eq_false, Bool.not_eq_eq_eq_not, Bool.not_true, Bool.not_false, Decidable.not_not, Int.not_lt, Int.not_le, gt_iff_lt, ge_iff_le, bne_eq_false_iff_eq, List.length_map] at hsp) <;> try subst hsp))
                   | refine ⟨_, _, kB, ?_⟩
                   | refine ⟨_, _, kL, ?_⟩
                   | refine ⟨_, _, kK, ?_⟩
                   | (intro Y hY hWY)
                   | refine hY _ ?_
                   | refine sS (iaddr_at (by rfl) (by rfl) (by omega) hrow) ?_
                   | fail)
        all_goals (conv => whnf)
        all_goals exact PV.le.refl _
    · have e : chkE h = 0 := by
        unfold chkE
        rw [if_neg ht, if_pos]
        intro c hc
        obtain ⟨q, hq⟩ := List.getElem?_of_mem hc
        exact hI.2 q (by have := (List.getElem?_eq_some_iff.1 hq).1; omega) c hq
      rw [e]
      repeat' (conv => whnf
               first
                 | (with_reducible refine sC (by kernel_rfl) ?_)
                 | ((first | with_reducible refine sB ?_ | with_reducible refine sG0 ?_ | with_reducible refine sG1 ?_ | refine sP (by rfl) ?_); first | refine oT ?_ | refine oF ?_ | (refine Or.inr (Or.inr ⟨fun hsp => ?_, fun hsp => ?_⟩) <;> (try simp only [eqO, Ob.eta, Cl.eta, tt_true, tt_false, decide_eq_true_eq, decide_eq_false_iff_not, beq_iff_eq, beq_eq_false_iff_ne, bne_iff_ne, ne_eq, Bool.not_eq_true, Bool.not_eq_false, Bool.not_eq_eq_eq_not, Bool.not_true, Bool.not_false, Decidable.not_not, Int.not_lt, Int.not_le, gt_iff_lt, ge_iff_le, bne_eq_false_iff_eq, List.length_map] at hsp) <;> try subst hsp))
                 | fail)
      all_goals (conv => whnf)
      all_goals exact PV.le.refl _
end Go.Ab.Td
