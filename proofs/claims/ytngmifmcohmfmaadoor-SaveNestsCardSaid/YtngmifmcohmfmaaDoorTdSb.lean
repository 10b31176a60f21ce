/- Joined texts: TdSa, TdSb. Under: nothing. -/
import Derived.Test.YtngmifmcohmfmaaDoorTdH
import Derived.Test.YtngmifmcohmfmaaDoorAbG6
/- Saves: newer objects, the place of a save. Under: nothing. -/
namespace Go.Ab.Td
open Go Go.Ab
variable {P : Program}
set_option linter.unusedSimpArgs false
attribute [local irreducible] compat
/-- A save. -/
structure Sn where
  n : Int
  heap : List Cl
  st : Int
def encSn (x : Sn) : List PV := [.int .i64 x.n, .sl 7 (x.heap.map encC), .int .i64 x.st]
def newerP (cells : Int) (o : Ob) : Prop := o.comp ∧ cells ≤ o.ref
open Classical in
noncomputable def ixF (p : Ob → Prop) : Nat → List Ob → Int
  | _, [] => -1
  | i, x :: l => if p x then (i : Int) else ixF p (i + 1) l
theorem ixF_ex (p : Ob → Prop) : ∀ (l : List Ob) (i : Nat), (0 ≤ ixF p i l) ↔ ∃ o ∈ l, p o
  | [], i => by simp [ixF]
  | x :: l, i => by
    unfold ixF
    by_cases h : p x
    · rw [if_pos h]; simp [h]
    · rw [if_neg h, ixF_ex p l (i + 1)]; simp [h]
/-- The place of a save. -/
def plF (n : Int) : Nat → List Sn → Int
  | _, [] => -1
  | i, x :: l => if x.n = n then (i : Int) else plF n (i + 1) l
theorem itr_saves (C : Laid P) : chkItr P n_save_keeper_saves_1 c_save_keeper_saves_1 = true := by
  unfold chkItr
  rw [k_save_keeper_saves_1 C]
  kernel_rfl
def tabV (g : Nat) : Option RFn := match Nat.beq g n_save_keeper_saves_1 with | true => some c_save_keeper_saves_1 | false => none
theorem ok_fnIV (C : Laid P) {g : Nat} {c : RFn} {ps : List PV} {r : PV} (hk : chkFn P g c = true) (hl : ps.length = c.nparams) (h : fnV G (OkC P G) noX noT tabV 1 c ps r) : OkC P G g ps [] r :=
  ok_of_fnV C.mixed hk (fun _ _ h => by cases h) (fun _ _ h => by cases h) (fun g c h => by
    unfold tabV at h
    split at h
    · rename_i hb
      have := Nat.eq_of_beq_eq_true hb
      subst this
      cases h
      exact itr_saves C
    · cases h) hl h


set_option maxHeartbeats 1000000 in
set_option maxRecDepth 100000 in
theorem ok_save_Newer (C : Laid P) (o : Ob) (n : Int) : OkC P G n_save_Newer [aO o, pI n] [] (.bool (tt (newerP n o))) := by
  refine ok_fn C (k_save_Newer C) rfl ?_
  repeat' (conv => whnf
           first
             | (with_reducible refine sC (by kernel_rfl) ?_)
             | ((first | with_reducible refine sB ?_ | with_reducible refine sG0 ?_ | with_reducible refine sG1 ?_ | refine sP (by rfl) ?_); first | refine oT ?_ | refine oF ?_ | (refine Or.inr (Or.inr ⟨fun hsp => ?_, fun hsp => ?_⟩) <;> (try simp only [eqO, Ob.eta, Cl.eta, tt_true, tt_false, decide_eq_true_eq, decide_eq_false_iff_not, beq_iff_eq, beq_eq_false_iff_ne, bne_iff_ne, ne_eq, Bool.not_eq_true, Bool.not_eq_false, Bool.not_eq_eq_eq_not, Bool.not_true, Bool.not_false, Decidable.not_not, Int.not_lt, Int.not_le, gt_iff_lt, ge_iff_le, bne_eq_false_iff_eq] at hsp) <;> try subst hsp))
             | fail)
  all_goals (conv => whnf)
  all_goals (first | (with_reducible refine tt_T ?_) | (with_reducible refine tt_F ?_) | (refine tt_B ?_; try simp (disch := omega) only [eqO, Ob.eta, Cl.eta, tt_true, tt_false, decide_eq_true_eq, decide_eq_false_iff_not, beq_iff_eq, beq_eq_false_iff_ne, bne_iff_ne, ne_eq, Bool.not_eq_true, Bool.not_eq_false, Bool.not_eq_eq_eq_not, Bool.not_true, Bool.not_false, Decidable.not_not, Int.not_lt, Int.not_le, gt_iff_lt, ge_iff_le, bne_eq_false_iff_eq, wrap_small])) <;> (grind [newerP, Ob.comp])
theorem ok_save_Newer_f (C : Laid P) (o_k : Int) (o_e : Bool) (o_n : Int) (o_s : List UInt8) (o_r : Int) (o_f : Int) (o_l : Int) (n : Int) : OkC P G n_save_Newer [.agg [.int .i64 o_k, .bool o_e, .int .i64 o_n, .str o_s, .int .i64 o_r, .int .i64 o_f, .int .i64 o_l], pI n] [] (.bool (tt (newerP n (⟨o_k, o_e, o_n, o_s, o_r, o_f, o_l⟩ : Ob)))) := ok_save_Newer C (⟨o_k, o_e, o_n, o_s, o_r, o_f, o_l⟩ : Ob) n

set_option maxHeartbeats 1000000 in
set_option maxRecDepth 100000 in
theorem ok_restore_1 (C : Laid P) (o : Ob) (x : Sn) : OkC P G n_save_keeper_restore_1 [aO o, .ref (encSn x)] [] (.bool (tt (newerP x.heap.length o))) := by
  refine ok_fn C (k_save_keeper_restore_1 C) rfl ?_
  repeat' (conv => whnf
           first
             | (with_reducible refine sC (by kernel_rfl) ?_)
             | ((first | with_reducible refine sB ?_ | with_reducible refine sG0 ?_ | with_reducible refine sG1 ?_ | refine sP (by rfl) ?_); first | refine oT ?_ | refine oF ?_ | (refine Or.inr (Or.inr ⟨fun hsp => ?_, fun hsp => ?_⟩) <;> (try simp only [eqO, Ob.eta, Cl.eta, tt_true, tt_false, decide_eq_true_eq, decide_eq_false_iff_not, beq_iff_eq, beq_eq_false_iff_ne, bne_iff_ne, ne_eq, Bool.not_eq_true, Bool.not_eq_false, Bool.not_eq_eq_eq_not, Bool.not_true, Bool.not_false, Decidable.not_not, Int.not_lt, Int.not_le, gt_iff_lt, ge_iff_le, bne_eq_false_iff_eq, List.length_map] at hsp) <;> try subst hsp))
             | refine ⟨_, _, ok_save_Newer_f C o.kind o.exec o.n o.name o.ref o.off o.len _, ?_⟩
             | fail)
  all_goals (conv => whnf)
  all_goals (first | exact PV.le.refl _ | (refine le_of_eq ?_; simp only [List.length_map]))
set_option maxHeartbeats 1000000 in
set_option maxRecDepth 100000 in
theorem ok_slices_IndexFunc_Obj (C : Laid P) (l : List Ob) (sn : Sn) (hl : l.length < 2 ^ 62) : OkC P G n_slices_IndexFunc_Obj [.sl 7 (List.map encO l), .func (.func n_save_keeper_restore_1) [] [.ref (encSn sn)]] [] (pI (ixF (newerP sn.heap.length) 0 l)) := by
  refine ok_fn C (k_slices_IndexFunc_Obj C) rfl ?_
  repeat' (conv => whnf
           first
             | (with_reducible refine sC (by kernel_rfl) ?_)
             | ((first | with_reducible refine sB ?_ | with_reducible refine sG0 ?_ | with_reducible refine sG1 ?_ | refine sP (by rfl) ?_); first | refine oT ?_ | refine oF ?_ | (refine Or.inr (Or.inr ⟨fun hsp => ?_, fun hsp => ?_⟩) <;> (try simp only [eqO, Ob.eta, Cl.eta, tt_true, tt_false, decide_eq_true_eq, decide_eq_false_iff_not, beq_iff_eq, beq_eq_false_iff_ne, bne_iff_ne, ne_eq, Bool.not_eq_true, Bool.not_eq_false, Bool.not_eq_eq_eq_not, Bool.not_true, Bool.not_false, Decidable.not_not, Int.not_lt, Int.not_le, gt_iff_lt, ge_iff_le, bne_eq_false_iff_eq] at hsp) <;> try subst hsp))
             | fail)
  all_goals (conv => whnf)
  intro X hX hW
  refine loopI hX (fun st (a : Nat) => st.upd [(8, .pv (pI (a : Int)))] []) (fun a m => a + m = l.length ∧ (ixF (newerP sn.heap.length) 0 l = ixF (newerP sn.heap.length) a (l.drop a))) 0 l.length (by (conv => whnf); first | done | rfl) (by simp) ?_
  intro m i ih hI
  rcases at_or l i with ⟨x, hlt, hx⟩ | hge
  · have hrow := row_map (f := encO) hx
    have hd := drop_at hx
    have hI2 := hI.2
    rw [hd] at hI2
    simp only [ixF] at hI2
    repeat' (conv => whnf
             first
               | (with_reducible refine sC (by kernel_rfl) ?_)
               | ((first | with_reducible refine sB ?_ | with_reducible refine sG0 ?_ | with_reducible refine sG1 ?_ | refine sP (by rfl) ?_); first | refine oT ?_ | refine oF ?_ | (refine Or.inr (Or.inr ⟨fun hsp => ?_, fun hsp => ?_⟩) <;> (try simp only [eqO, Ob.eta, Cl.eta, tt_true, tt_false, decide_eq_true_eq, decide_eq_false_iff_not, beq_iff_eq, beq_eq_false_iff_ne, bne_iff_ne, ne_eq, Bool.not_eq_true, Bool.not_eq_false, Bool.not_eq_eq_eq_not, Bool.not_true, Bool.not_false, Decidable.not_not, Int.not_lt, Int.not_le, gt_iff_lt, ge_iff_le, bne_eq_false_iff_eq, List.length_map] at hsp) <;> try subst hsp))
               | refine ⟨_, _, ok_restore_1 C x sn, ?_⟩
               | refine sS (iaddr_at (by rfl) (by rfl) (by omega) hrow) ?_
               | fail)
    all_goals (conv => whnf)
    all_goals first
      | (refine ih (m - 1) (i + 1) _ (by omega) ⟨by (try dsimp only); omega, ?_⟩ (by (conv => whnf); first | done | rfl | (simp (disch := omega) only [wrap_succ])))
      | (with_reducible first | refine le_int ?_ | refine tt_T ?_ | refine tt_F ?_)
      | (refine tt_B ?_; simp only [eqO, Ob.eta, Cl.eta, tt_true, tt_false, decide_eq_true_eq, decide_eq_false_iff_not, beq_iff_eq, beq_eq_false_iff_ne, bne_iff_ne, ne_eq, Bool.not_eq_true, Bool.not_eq_false, Bool.not_eq_eq_eq_not, Bool.not_true, Bool.not_false, Decidable.not_not, Int.not_lt, Int.not_le, gt_iff_lt, ge_iff_le, bne_eq_false_iff_eq])
      | refine le_of_eq ?_
    all_goals grind
  · have hd : l.drop i = [] := List.drop_eq_nil_of_le hge
    have hI2 := hI.2
    rw [hd] at hI2
    simp only [ixF] at hI2
    repeat' (conv => whnf
             first
               | (with_reducible refine sC (by kernel_rfl) ?_)
               | ((first | with_reducible refine sB ?_ | with_reducible refine sG0 ?_ | with_reducible refine sG1 ?_ | refine sP (by rfl) ?_); first | refine oT ?_ | refine oF ?_ | (refine Or.inr (Or.inr ⟨fun hsp => ?_, fun hsp => ?_⟩) <;> (try simp only [eqO, Ob.eta, Cl.eta, tt_true, tt_false, decide_eq_true_eq, decide_eq_false_iff_not, beq_iff_eq, beq_eq_false_iff_ne, bne_iff_ne, ne_eq, Bool.not_eq_true, Bool.not_eq_false, Bool.not_eq_eq_eq_not, Bool.not_true, Bool.not_false, Decidable.not_not, Int.not_lt, Int.not_le, gt_iff_lt, ge_iff_le, bne_eq_false_iff_eq, List.length_map] at hsp) <;> try subst hsp))
               | refine ⟨_, _, ok_restore_1 C x sn, ?_⟩
               | fail)
    all_goals (conv => whnf)
    all_goals first
      | (with_reducible first | refine le_int ?_ | refine tt_T ?_ | refine tt_F ?_)
      | (refine tt_B ?_; simp only [eqO, Ob.eta, Cl.eta, tt_true, tt_false, decide_eq_true_eq, decide_eq_false_iff_not, beq_iff_eq, beq_eq_false_iff_ne, bne_iff_ne, ne_eq, Bool.not_eq_true, Bool.not_eq_false, Bool.not_eq_eq_eq_not, Bool.not_true, Bool.not_false, Decidable.not_not, Int.not_lt, Int.not_le, gt_iff_lt, ge_iff_le, bne_eq_false_iff_eq])
      | refine le_of_eq ?_
    all_goals grind

set_option maxHeartbeats 1000000 in
set_option maxRecDepth 100000 in
theorem ok_slices_ContainsFunc_Obj (C : Laid P) (l : List Ob) (x : Sn) (hl : l.length < 2 ^ 62) : OkC P G n_slices_ContainsFunc_Obj [.sl 7 (List.map encO l), .func (.func n_save_keeper_restore_1) [] [.ref (encSn x)]] [] (.bool (tt (∃ o ∈ l, newerP x.heap.length o))) := by
  refine ok_fn C (k_slices_ContainsFunc_Obj C) rfl ?_
  repeat' (conv => whnf
           first
             | (with_reducible refine sC (by kernel_rfl) ?_)
             | ((first | with_reducible refine sB ?_ | with_reducible refine sG0 ?_ | with_reducible refine sG1 ?_ | refine sP (by rfl) ?_); first | refine oT ?_ | refine oF ?_ | (refine Or.inr (Or.inr ⟨fun hsp => ?_, fun hsp => ?_⟩) <;> (try simp only [eqO, Ob.eta, Cl.eta, tt_true, tt_false, decide_eq_true_eq, decide_eq_false_iff_not, beq_iff_eq, beq_eq_false_iff_ne, bne_iff_ne, ne_eq, Bool.not_eq_true, Bool.not_eq_false, Bool.not_eq_eq_eq_not, Bool.not_true, Bool.not_false, Decidable.not_not, Int.not_lt, Int.not_le, gt_iff_lt, ge_iff_le, bne_eq_false_iff_eq] at hsp) <;> try subst hsp))
             | refine ⟨_, _, ok_slices_IndexFunc_Obj C l x hl, ?_⟩
             | fail)
  all_goals (conv => whnf)
  all_goals (first | (with_reducible refine tt_T ?_) | (with_reducible refine tt_F ?_) | (refine tt_B ?_; try simp (disch := omega) only [eqO, Ob.eta, Cl.eta, tt_true, tt_false, decide_eq_true_eq, decide_eq_false_iff_not, beq_iff_eq, beq_eq_false_iff_ne, bne_iff_ne, ne_eq, Bool.not_eq_true, Bool.not_eq_false, Bool.not_eq_eq_eq_not, Bool.not_true, Bool.not_false, Decidable.not_not, Int.not_lt, Int.not_le, gt_iff_lt, ge_iff_le, bne_eq_false_iff_eq, wrap_small])) <;> (exact ixF_ex _ l 0)

set_option maxHeartbeats 1000000 in
set_option maxRecDepth 100000 in
theorem ok_save_some_Obj (C : Laid P) (l : List Ob) (x : Sn) (hl : l.length < 2 ^ 62) : OkC P G n_save_some_Obj [.sl 7 (List.map encO l), .func (.func n_save_keeper_restore_1) [] [.ref (encSn x)]] [] (.bool (tt (∃ o ∈ l, newerP x.heap.length o))) := by
  refine ok_fn C (k_save_some_Obj C) rfl ?_
  repeat' (conv => whnf
           first
             | (with_reducible refine sC (by kernel_rfl) ?_)
             | ((first | with_reducible refine sB ?_ | with_reducible refine sG0 ?_ | with_reducible refine sG1 ?_ | refine sP (by rfl) ?_); first | refine oT ?_ | refine oF ?_ | (refine Or.inr (Or.inr ⟨fun hsp => ?_, fun hsp => ?_⟩) <;> (try simp only [eqO, Ob.eta, Cl.eta, tt_true, tt_false, decide_eq_true_eq, decide_eq_false_iff_not, beq_iff_eq, beq_eq_false_iff_ne, bne_iff_ne, ne_eq, Bool.not_eq_true, Bool.not_eq_false, Bool.not_eq_eq_eq_not, Bool.not_true, Bool.not_false, Decidable.not_not, Int.not_lt, Int.not_le, gt_iff_lt, ge_iff_le, bne_eq_false_iff_eq] at hsp) <;> try subst hsp))
             | refine ⟨_, _, ok_slices_ContainsFunc_Obj C l x hl, ?_⟩
             | fail)
  all_goals (conv => whnf)
  all_goals (exact PV.le.refl _)
end Go.Ab.Td

/- Saves: the place of a save, by range over a function. Under: nothing. -/
namespace Go.Ab.Td
open Go Go.Ab
variable {P : Program}
set_option linter.unusedSimpArgs false
attribute [local irreducible] compat

set_option maxHeartbeats 1000000 in
set_option maxRecDepth 100000 in
theorem ok_save_keeper_saves (C : Laid P) (s : Sta) : OkC P G n_save_keeper_saves [aS s] [] (.func (.func n_save_keeper_saves_1) [] [.ref (encS s)]) := by
  refine ok_fn C (k_save_keeper_saves C) rfl ?_
  repeat' (conv => whnf
           first
             | (with_reducible refine sC (by kernel_rfl) ?_)
             | ((first | with_reducible refine sB ?_ | with_reducible refine sG0 ?_ | with_reducible refine sG1 ?_ | refine sP (by rfl) ?_); first | refine oT ?_ | refine oF ?_ | (refine Or.inr (Or.inr ⟨fun hsp => ?_, fun hsp => ?_⟩) <;> (try simp only [eqO, Ob.eta, Cl.eta, tt_true, tt_false, decide_eq_true_eq, decide_eq_false_iff_not, beq_iff_eq, beq_eq_false_iff_ne, bne_iff_ne, ne_eq, Bool.not_eq_true, Bool.not_eq_false, Bool.not_eq_eq_eq_not, Bool.not_true, Bool.not_false, Decidable.not_not, Int.not_lt, Int.not_le, gt_iff_lt, ge_iff_le, bne_eq_false_iff_eq] at hsp) <;> try subst hsp))
             | fail)
  all_goals (conv => whnf)
  all_goals (exact PV.le.refl _)
set_option maxHeartbeats 4000000 in
set_option maxRecDepth 100000 in
theorem ok_save_keeper_find (C : Laid P) (s : Sta) (l : List Sn) (n : Int) (hq : s.f3 = l.map encSn) (hl : l.length ≤ 1000000) : OkC P G n_save_keeper_find [aS s, pI n] [] (pI (plF n 0 l)) := by
  refine ok_fnIV C (k_save_keeper_find C) rfl ?_
  have hlen : s.f3.length = l.length := by rw [hq, List.length_map]
  repeat' (conv => whnf
           first
             | (with_reducible refine sC (by kernel_rfl) ?_)
             | ((first | with_reducible refine sB ?_ | with_reducible refine sG0 ?_ | with_reducible refine sG1 ?_ | refine sP (by rfl) ?_); first | refine Or.inl ⟨by first | assumption | (simp only [eqO, Ob.eta, Cl.eta, tt_true, tt_false, decide_eq_true_eq, decide_eq_false_iff_not, beq_iff_eq, beq_eq_false_iff_ne, bne_iff_ne, ne_eq, Bool.not_eq_true, Bool.not_eq_false, Bool.not_eq_eq_eq_not, Bool.not_true, Bool.not_false, Decidable.not_not, Int.not_lt, Int.not_le, gt_iff_lt, ge_iff_le, bne_eq_false_iff_eq, hlen]; first | done | assumption | omega), ?_⟩ | refine Or.inr (Or.inl ⟨by first | assumption | (simp only [eqO, Ob.eta, Cl.eta, tt_true, tt_false, decide_eq_true_eq, decide_eq_false_iff_not, beq_iff_eq, beq_eq_false_iff_ne, bne_iff_ne, ne_eq, Bool.not_eq_true, Bool.not_eq_false, Bool.not_eq_eq_eq_not, Bool.not_true, Bool.not_false, Decidable.not_not, Int.not_lt, Int.not_le, gt_iff_lt, ge_iff_le, bne_eq_false_iff_eq, hlen]; first | done | assumption | omega), ?_⟩) | (refine Or.inr (Or.inr ⟨fun hsp => ?_, fun hsp => ?_⟩) <;> (try simp only [eqO, Ob.eta, Cl.eta, tt_true, tt_false, decide_eq_true_eq, decide_eq_false_iff_not, beq_iff_eq, beq_eq_false_iff_ne, bne_iff_ne, ne_eq, Bool.not_eq_true, Bool.not_eq_false, Bool.not_eq_eq_eq_not, Bool.not_true, Bool.not_false, Decidable.not_not, Int.not_lt, Int.not_le, gt_iff_lt, ge_iff_le, bne_eq_false_iff_eq, hlen] at hsp) <;> try subst hsp))
             | refine ⟨_, _, ok_save_keeper_saves C s, ?_⟩
             | fail)
  all_goals (conv => whnf)
  intro X hX hW
  refine loopN hX hW (fun st (i : Nat) => st.upd [(9, .pv (pI (i : Int)))] []) (fun i k => i + k = l.length ∧ plF n 0 l = plF n i (l.drop i)) 0 l.length (by (conv => whnf); first | done | rfl) ⟨by simp, by simp⟩ ?_
  intro m i ih hI
  rcases at_or l i with ⟨x, hlt, hx⟩ | hge
  · have hrow : s.f3[(i : Int).toNat]? = some (encSn x) := by rw [hq]; exact row_map (f := encSn) hx
    have hd := drop_at hx
    have hI2 := hI.2
    rw [hd] at hI2
    simp only [plF] at hI2
    by_cases hn : x.n = n
    · rw [if_pos hn] at hI2
      rw [hI2]
      repeat' (conv => whnf
               first
                 | (with_reducible refine sC (by kernel_rfl) ?_)
                 | ((first | with_reducible refine sB ?_ | with_reducible refine sG0 ?_ | with_reducible refine sG1 ?_ | refine sP (by rfl) ?_); first | refine Or.inl ⟨by first | assumption | (simp only [eqO, Ob.eta, Cl.eta, tt_true, tt_false, decide_eq_true_eq, decide_eq_false_iff_not, beq_iff_eq, beq_eq_false_iff_ne, bne_iff_ne, ne_eq, Bool.not_eq_true, Bool.not_eq_false, Bool.not_eq_eq_eq_not, Bool.not_true, Bool.not_false, Decidable.not_not, Int.not_lt, Int.not_le, gt_iff_lt, ge_iff_le, bne_eq_false_iff_eq, hlen]; first | done | assumption | omega), ?_⟩ | refine Or.inr (Or.inl ⟨by first | assumption | (simp only [eqO, Ob.eta, Cl.eta, tt_true, tt_false, decide_eq_true_eq, decide_eq_false_iff_not, beq_iff_eq, beq_eq_false_iff_ne, bne_iff_ne, ne_eq, Bool.not_eq_true, Bool.not_eq_false, Bool.not_eq_eq_eq_not, Bool.not_true, Bool.not_false, Decidable.not_not, Int.not_lt, Int.not_le, gt_iff_lt, ge_iff_le, bne_eq_false_iff_eq, hlen]; first | done | assumption | omega), ?_⟩) | (refine Or.inr (Or.inr ⟨fun hsp => ?_, fun hsp => ?_⟩) <;> (try simp only [eqO, Ob.eta, Cl.eta, tt_true, tt_false, decide_eq_true_eq, decide_eq_false_iff_not, beq_iff_eq, beq_eq_false_iff_ne, bne_iff_ne, ne_eq, Bool.not_eq_true, Bool.not_eq_false, Bool.not_eq_eq_eq_not, Bool.not_true, Bool.not_false, Decidable.not_not, Int.not_lt, Int.not_le, gt_iff_lt, ge_iff_le, bne_eq_false_iff_eq, hlen] at hsp) <;> try subst hsp))
                 | refine sS (iaddr_at (by rfl) (by rfl) (by omega) hrow) ?_
                 | fail)
      all_goals (conv => whnf)
      all_goals exact PV.le.refl _
    · rw [if_neg hn] at hI2
      repeat' (conv => whnf
               first
                 | (with_reducible refine sC (by kernel_rfl) ?_)
                 | ((first | with_reducible refine sB ?_ | with_reducible refine sG0 ?_ | with_reducible refine sG1 ?_ | refine sP (by rfl) ?_); first | refine Or.inl ⟨by first | assumption | (simp only [eqO, Ob.eta, Cl.eta, tt_true, tt_false, decide_eq_true_eq, decide_eq_false_iff_not, beq_iff_eq, beq_eq_false_iff_ne, bne_iff_ne, ne_eq, Bool.not_eq_true, Bool.not_eq_false, Bool.not_eq_eq_eq_not, Bool.not_true, Bool.not_false, Decidable.not_not, Int.not_lt, Int.not_le, gt_iff_lt, ge_iff_le, bne_eq_false_iff_eq, hlen]; first | done | assumption | omega), ?_⟩ | refine Or.inr (Or.inl ⟨by first | assumption | (simp only [eqO, Ob.eta, Cl.eta, tt_true, tt_false, decide_eq_true_eq, decide_eq_false_iff_not, beq_iff_eq, beq_eq_false_iff_ne, bne_iff_ne, ne_eq, Bool.not_eq_true, Bool.not_eq_false, Bool.not_eq_eq_eq_not, Bool.not_true, Bool.not_false, Decidable.not_not, Int.not_lt, Int.not_le, gt_iff_lt, ge_iff_le, bne_eq_false_iff_eq, hlen]; first | done | assumption | omega), ?_⟩) | (refine Or.inr (Or.inr ⟨fun hsp => ?_, fun hsp => ?_⟩) <;> (try simp only [eqO, Ob.eta, Cl.eta, tt_true, tt_false, decide_eq_true_eq, decide_eq_false_iff_not, beq_iff_eq, beq_eq_false_iff_ne, bne_iff_ne, ne_eq, Bool.not_eq_true, Bool.not_eq_false, Bool.not_eq_eq_eq_not, Bool.not_true, Bool.not_false, Decidable.not_not, Int.not_lt, Int.not_le, gt_iff_lt, ge_iff_le, bne_eq_false_iff_eq, hlen] at hsp) <;> try subst hsp))
                 | refine sS (iaddr_at (by rfl) (by rfl) (by omega) hrow) ?_
                 | fail)
      all_goals (conv => whnf)
      all_goals (refine ih (m - 1) (i + 1) _ (by omega) ⟨by (try dsimp only); omega, hI2⟩ (by (conv => whnf); first | done | rfl | (simp (disch := omega) only [wrap_succ])))
  · have hd : l.drop i = [] := List.drop_eq_nil_of_le hge
    have hI2 := hI.2
    rw [hd] at hI2
    simp only [plF] at hI2
    rw [hI2]
    repeat' (conv => whnf
             first
               | (with_reducible refine sC (by kernel_rfl) ?_)
               | ((first | with_reducible refine sB ?_ | with_reducible refine sG0 ?_ | with_reducible refine sG1 ?_ | refine sP (by rfl) ?_); first | refine Or.inl ⟨by first | assumption | (simp only [eqO, Ob.eta, Cl.eta, tt_true, tt_false, decide_eq_true_eq, decide_eq_false_iff_not, beq_iff_eq, beq_eq_false_iff_ne, bne_iff_ne, ne_eq, Bool.not_eq_true, Bool.not_eq_false, Bool.not_eq_eq_eq_not, Bool.not_true, Bool.not_false, Decidable.not_not, Int.not_lt, Int.not_le, gt_iff_lt, ge_iff_le, bne_eq_false_iff_eq, hlen]; first | done | assumption | omega), ?_⟩ | refine Or.inr (Or.inl ⟨by first | assumption | (simp only [eqO, Ob.eta, Cl.eta, tt_true, tt_false, decide_eq_true_eq, decide_eq_false_iff_not, beq_iff_eq, beq_eq_false_iff_ne, bne_iff_ne, ne_eq, Bool.not_eq_true, Bool.not_eq_false, Bool.not_eq_eq_eq_not, Bool.not_true, Bool.not_false, Decidable.not_not, Int.not_lt, Int.not_le, gt_iff_lt, ge_iff_le, bne_eq_false_iff_eq, hlen]; first | done | assumption | omega), ?_⟩) | (refine Or.inr (Or.inr ⟨fun hsp => ?_, fun hsp => ?_⟩) <;> (try simp only [eqO, Ob.eta, Cl.eta, tt_true, tt_false, decide_eq_true_eq, decide_eq_false_iff_not, beq_iff_eq, beq_eq_false_iff_ne, bne_iff_ne, ne_eq, Bool.not_eq_true, Bool.not_eq_false, Bool.not_eq_eq_eq_not, Bool.not_true, Bool.not_false, Decidable.not_not, Int.not_lt, Int.not_le, gt_iff_lt, ge_iff_le, bne_eq_false_iff_eq, hlen] at hsp) <;> try subst hsp))
               | fail)
    all_goals (conv => whnf)
    all_goals exact PV.le.refl _

end Go.Ab.Td
