/- A step looks at its operands and at the blocks it names as read, and at nothing else. Under: nothing. -/
import Derived.Test.YthpnccneaaeomaaAb3
namespace Go.Ab

def oList : Option RA → List RA | some x => [x] | none => []

def ROp.operands : ROp → List RA
  | .mv x | .box _ x | .load _ _ x | .isnil _ x | .not x | .neg x | .conv _ x | .same x | .s2b x | .b2s x | .faddr x _ | .field _ _ _ x | .extract x _ | .slen x | .strlen x | .mksl _ _ _ x | .clear _ _ x => [x]
  | .pick a b c => [a, b, c]
  | .alloc _ | .mkmap | .alen _ => []
  | .store _ a b | .bin _ a b | .eqs _ _ a b | .eqb _ a b | .lookup a b _ | .iaddr _ a b | .index _ _ _ a b | .sindex a b | .append _ _ a b | .copy _ a b => [a, b]
  | .mkf _ a b => a ++ b
  | .insert a b c => [a, b, c]
  | .slice _ x a b c => x :: (oList a ++ oList b ++ oList c)
  | .sslice x a b => x :: (oList a ++ oList b)
  | .call f a => f :: a
  | .mm _ xs => xs
  | .build _ ps => ps.map fun (_, _, x) => x
  | .bsl _ _ _ ps => ps.map fun (_, x) => x

/-- The same block, but for the sealO. -/
def Alike (σ σ' : Store) (b : Nat) : Prop := (find σ' b).map SObj.sealO = (find σ b).map SObj.sealO

theorem Alike.of_eq {σ σ' : Store} {b : Nat} (h : find σ' b = find σ b) : Alike σ σ' b := by unfold Alike; rw [h]

theorem seal_eq {o o' : SObj} (h : o'.sealO = o.sealO) : o'.es = o.es ∧ o'.row? = o.row? := by
  cases o <;> cases o' <;> simp only [SObj.sealO] at h <;> cases h <;> exact ⟨rfl, rfl⟩

theorem seal_eq_len {o o' : SObj} (h : o'.sealO = o.sealO) : o'.len = o.len := by
  cases o <;> cases o' <;> simp only [SObj.sealO] at h <;> cases h <;> rfl

theorem Alike.some {σ σ' : Store} {b : Nat} {o : SObj} (h : Alike σ σ' b) (hf : find σ b = some o) : ∃ o', find σ' b = some o' ∧ o'.sealO = o.sealO := by
  unfold Alike at h; rw [hf] at h
  cases hf' : find σ' b with
  | none => rw [hf'] at h; cases h
  | some o' => rw [hf'] at h; simp at h; exact ⟨o', rfl, h⟩

theorem Alike.arr {σ σ' : Store} {b e : Nat} {r : List (List PV)} {s : Bool} (h : Alike σ σ' b) (hf : find σ b = Option.some (.arr e r s)) : ∃ s', find σ' b = Option.some (.arr e r s') := by
  obtain ⟨o', h1, h2⟩ := h.some hf
  cases o' <;> simp only [SObj.sealO] at h2 <;> cases h2
  exact ⟨_, h1⟩
theorem Alike.box {σ σ' : Store} {b e : Nat} {r : List (List AV)} {s : Bool} (h : Alike σ σ' b) (hf : find σ b = Option.some (.box e r s)) : ∃ s', find σ' b = Option.some (.box e r s') := by
  obtain ⟨o', h1, h2⟩ := h.some hf
  cases o' <;> simp only [SObj.sealO] at h2 <;> cases h2
  exact ⟨_, h1⟩
theorem Alike.map {σ σ' : Store} {b : Nat} {r : List (List UInt8 × AV)} (h : Alike σ σ' b) (hf : find σ b = Option.some (.map r)) : find σ' b = Option.some (.map r) := by
  obtain ⟨o', h1, h2⟩ := h.some hf
  cases o' <;> simp only [SObj.sealO] at h2 <;> cases h2
  exact h1

theorem prowsOf_frame {σ σ' : Store} {es : Nat} {v : AV} {xs : List (List PV)} {rd : List Nat} (h : prowsOf σ es v = some (xs, rd)) (hr : ∀ b ∈ rd, Alike σ σ' b) : prowsOf σ' es v = some (xs, rd) := by
  unfold prowsOf at h ⊢
  split at h
  · exact h
  · exact h
  · exact h
  · split at h
    · rename_i hf
      split at h
      · cases h
        obtain ⟨s', hs'⟩ := (hr _ (by simp)).arr hf
        simp only [hs']; rw [if_pos (by assumption)]
      · cases h
    · cases h
  · cases h

theorem prowsOf_none {σ σ' : Store} {es : Nat} {v : AV} {xs : List (List AV)} {rd : List Nat} (h : rowsOf σ es v = some (xs, rd)) (hn : prowsOf σ es v = none) (hr : ∀ b ∈ rd, Alike σ σ' b) : prowsOf σ' es v = none := by
  unfold rowsOf at h
  unfold prowsOf at hn ⊢
  split at h
  · rename_i he; simp only [he] at hn; cases hn
  · rename_i e rows he
    split at h
    · rename_i hee; simp only [he, if_pos hee] at hn; cases hn
    · cases h
  · rename_i e rows he
    split at h
    · rename_i hee; simp only [he, if_pos hee] at hn; cases hn
    · cases h
  · rename_i b i n he
    simp only [he] at hn ⊢
    split at h
    · rename_i e rows sl hf
      split at h
      · rename_i hee; simp only [hf, if_pos hee] at hn; cases hn
      · cases h
    · rename_i e rows sl hf
      split at h
      · cases h
        obtain ⟨s', hs'⟩ := (hr _ (by simp)).box hf
        simp only [hs']
      · cases h
    · cases h
  · cases h

theorem rowsOf_frame {σ σ' : Store} {es : Nat} {v : AV} {xs : List (List AV)} {rd : List Nat} (h : rowsOf σ es v = some (xs, rd)) (hr : ∀ b ∈ rd, Alike σ σ' b) : rowsOf σ' es v = some (xs, rd) := by
  unfold rowsOf at h ⊢
  split at h
  · exact h
  · exact h
  · exact h
  · split at h
    · rename_i hf
      split at h
      · cases h
        obtain ⟨s', hs'⟩ := (hr _ (by simp)).arr hf
        simp only [hs']; rw [if_pos (by assumption)]
      · cases h
    · rename_i hf
      split at h
      · cases h
        obtain ⟨s', hs'⟩ := (hr _ (by simp)).box hf
        simp only [hs']; rw [if_pos (by assumption)]
      · cases h
    · cases h
  · cases h

theorem pubL_frame {f g : AV → Option (PV × List Nat)} {R : Nat → Prop} (hfg : ∀ a p m, f a = some (p, m) → (∀ b ∈ m, R b) → g a = some (p, m)) :
    ∀ (l : List AV) (ps : List PV) (m : List Nat), pubL f l = some (ps, m) → (∀ b ∈ m, R b) → pubL g l = some (ps, m)
  | [], ps, m, h, _ => by simp only [pubL] at h ⊢; exact h
  | a :: l, ps, m, h, hr => by
    simp only [pubL] at h ⊢
    split at h
    · rename_i p n hp
      split at h
      · rename_i ps' m' hps
        cases h
        rw [hfg a p n hp fun b hb => hr b (List.mem_append_left _ hb)]
        simp only
        rw [pubL_frame hfg l ps' m' hps fun b hb => hr b (List.mem_append_right _ hb)]
      · cases h
    · cases h

theorem pubR_frame {f g : AV → Option (PV × List Nat)} {R : Nat → Prop} (hfg : ∀ a p m, f a = some (p, m) → (∀ b ∈ m, R b) → g a = some (p, m)) :
    ∀ (l : List (List AV)) (ps : List (List PV)) (m : List Nat), pubR f l = some (ps, m) → (∀ b ∈ m, R b) → pubR g l = some (ps, m)
  | [], ps, m, h, _ => by simp only [pubR] at h ⊢; exact h
  | a :: l, ps, m, h, hr => by
    simp only [pubR] at h ⊢
    split at h
    · rename_i p n hp
      split at h
      · rename_i ps' m' hps
        cases h
        rw [pubL_frame hfg a p n hp fun b hb => hr b (List.mem_append_left _ hb)]
        simp only
        rw [pubR_frame hfg l ps' m' hps fun b hb => hr b (List.mem_append_right _ hb)]
      · cases h
    · cases h

theorem pub_frame {σ σ' : Store} : ∀ (k : Nat) (a : AV) (p : PV) (m : List Nat), pub σ k a = some (p, m) → (∀ b ∈ m, Alike σ σ' b) → pub σ' k a = some (p, m) := by
  intro k
  induction k with
  | zero =>
    intro a p m h _
    cases a <;> simp only [pub] at h ⊢ <;> first | exact h | cases h
  | succ k ih =>
    intro a p m h hr
    cases a with
    | pv p => simp only [pub] at h ⊢; exact h
    | emp es => simp only [pub] at h ⊢; exact h
    | fsl es rows => simp only [pub] at h ⊢; exact h
    | agg cs =>
      simp only [pub] at h ⊢
      split at h
      · rename_i ps n hp; cases h; rw [pubL_frame ih _ _ _ hp hr]
      · cases h
    | tup cs =>
      simp only [pub] at h ⊢
      split at h
      · rename_i ps n hp; cases h; rw [pubL_frame ih _ _ _ hp hr]
      · cases h
    | func fn a b =>
      simp only [pub] at h ⊢
      split at h
      · rename_i ps n hp
        split at h
        · rename_i qs m' hq
          cases h
          rw [pubL_frame ih _ _ _ hp fun b hb => hr b (List.mem_append_left _ hb)]
          simp only
          rw [pubL_frame ih _ _ _ hq fun b hb => hr b (List.mem_append_right _ hb)]
        · cases h
      · cases h
    | own b i n =>
      simp only [pub] at h ⊢
      split at h
      · rename_i hf; cases h
        obtain ⟨s', hs'⟩ := (hr _ (by simp)).arr hf
        simp only [hs']
      · rename_i hf
        split at h
        · rename_i ps m' hp
          cases h
          obtain ⟨s', hs'⟩ := (hr _ (by simp)).box hf
          simp only [hs']
          rw [pubR_frame ih _ _ _ hp fun b hb => hr b (List.mem_cons_of_mem _ hb)]
        · cases h
      · cases h
    | ptr b i j =>
      simp only [pub] at h ⊢
      split at h
      · rename_i o hf
        split at h
        · rename_i row hrow
          split at h
          · rename_i ps m' hp
            cases h
            obtain ⟨o', ho', hse⟩ := (hr b (by simp)).some hf
            simp only [ho', (seal_eq hse).2, hrow]
            rw [pubL_frame ih _ _ _ hp fun b hb => hr b (List.mem_cons_of_mem _ hb)]
          · cases h
        · cases h
      · cases h
    | mref b => simp only [pub] at h; cases h
    | anyB => simp only [pub] at h; cases h
    | yld b => simp only [pub] at h; cases h
    | mark k => simp only [pub] at h; cases h
    | undef => simp only [pub] at h; cases h

section
variable {σ σ' : Store} {nm : Nat} {ev ev' : RA → AV} {e : Eff}

theorem optIdx_frame {d : Int} {o : Option RA} (h : ∀ x ∈ oList o, ev' x = ev x) : optIdx ev' d o = optIdx ev d o := by
  cases o with
  | none => rfl
  | some x => simp only [optIdx]; rw [h x (by simp [oList])]

theorem mmF_frame {isMax : Bool} : ∀ (l : List RA) (a : AV), (∀ x ∈ l, ev' x = ev x) → mmF isMax ev' a l = mmF isMax ev a l
  | [], a, _ => rfl
  | x :: l, a, h => by
    simp only [mmF]
    rw [h x (by simp)]
    split
    · exact mmF_frame l _ fun y hy => h y (List.mem_cons_of_mem _ hy)
    · rfl

theorem sliceP_frame {es : Nat} {rows : List (List PV)} {lo hi mx : Option RA} (h : ∀ x ∈ oList lo ++ oList hi ++ oList mx, ev' x = ev x) : step.sliceP ev' es rows lo hi mx = step.sliceP ev es rows lo hi mx := by
  simp only [step.sliceP]
  rw [optIdx_frame fun x hx => h x (by simp [hx]), optIdx_frame fun x hx => h x (by simp [hx]), optIdx_frame fun x hx => h x (by simp [hx])]
end
end Go.Ab
