/- More steps of the invariant: sealing, an empty slice without a block, maps. Under: nothing. -/
import Derived.Test.YthpnccneaaeomaaAb4
namespace Go.Ab
open Go.RowKit
section
variable {B : Nat} {w w' : World} {I : Imm} {ι : Nat → Option Nat} {σ : Store} {D : Nat → Prop}

/-- A name without a block: no rows. -/
theorem SimS.empty {nm : Nat} {o : SObj} (hs : SimS B w I ι σ D) (hn : ¬ D nm) (hm : o.isMap = false) (hl : o.len = 0) :
    SimS B w I (setι ι nm none) (upS σ nm (some o)) (addD D nm) ∧ Later w I ι σ D w I (setι ι nm none) (upS σ nm (some o)) (addD D nm) := by
  have key : ∀ b' o₁, find (upS σ nm (some o)) b' = some o₁ → (b' = nm ∧ o₁ = o) ∨ (b' ≠ nm ∧ find σ b' = some o₁) := by
    intro b' o₁ h
    rw [find_upS] at h
    by_cases e : b' = nm
    · rw [if_pos e] at h; cases h; exact .inl ⟨e, rfl⟩
    · rw [if_neg e] at h; exact .inr ⟨e, h⟩
  have hL : Later w I ι σ D w I (setι ι nm none) (upS σ nm (some o)) (addD D nm) := by
    refine ⟨⟨fun r' k v hi hx => ⟨hx, hi⟩, fun _ h => .inl h, fun b' o₁ hD h => ?_, fun r₁ c₁ T₁ fz₁ h₁ => ⟨c₁, fz₁, h₁, rfl⟩, fun b' hD => by have : b' ≠ nm := fun e => hn (e ▸ hD); simp [setι, this]⟩, fun _ _ _ h => h⟩
    rcases key b' o₁ h with ⟨rfl, rfl⟩ | ⟨e, h⟩
    · exact absurd hD hn
    · exact ⟨o₁, h, rfl, rfl, by simp [setι, e]⟩
  refine ⟨⟨hs.bnd, fun b' o₁ h => ?_, fun b₁ b₂ o₁ o₂ r' h₁ h₂ e₁ e₂ => ?_, fun b' o₁ r' h e => ?_, fun b' o₁ r' k h e hi => ?_, fun b' o₁ h => ?_⟩, hL⟩
  · rcases key b' o₁ h with ⟨rfl, rfl⟩ | ⟨_, h⟩
    · exact .inr rfl
    · exact .inl (hs.dom b' o₁ h)
  · rcases key b₁ o₁ h₁ with ⟨rfl, rfl⟩ | ⟨n₁, g₁⟩
    · simp [setι] at e₁
    · rcases key b₂ o₂ h₂ with ⟨rfl, rfl⟩ | ⟨n₂, g₂⟩
      · simp [setι] at e₂
      · simp only [setι, if_neg n₁, if_neg n₂] at e₁ e₂; exact hs.inj b₁ b₂ o₁ o₂ r' g₁ g₂ e₁ e₂
  · rcases key b' o₁ h with ⟨rfl, rfl⟩ | ⟨n₁, h⟩
    · simp [setι] at e
    · simp only [setι, if_neg n₁] at e; exact hs.ge b' o₁ r' h e
  · rcases key b' o₁ h with ⟨rfl, rfl⟩ | ⟨n₁, h⟩
    · simp [setι] at e
    · simp only [setι, if_neg n₁] at e; exact hs.sep b' o₁ r' k h e hi
  · rcases key b' o₁ h with ⟨rfl, rfl⟩ | ⟨n₁, h⟩
    · have hrows : RowsRep w I (setι ι b' none) (upS σ b' (some o₁)) (addD D b') b' o₁ := .inl ⟨by simp [setι], hl⟩
      cases o₁ with
      | map ents => simp [SObj.isMap] at hm
      | arr e r' s => exact hrows
      | box e r' s => exact hrows
    · exact (hs.obj b' o₁ h).mono hL (by simp [setι, n₁]) fun _ _ => rfl

theorem SObj.seal_es (o : SObj) : o.sealO.es = o.es := by cases o <;> rfl
theorem SObj.seal_len (o : SObj) : o.sealO.len = o.len := by cases o <;> rfl
theorem SObj.seal_row (o : SObj) (i : Nat) : o.sealO.row? i = o.row? i := by cases o <;> rfl
theorem SObj.seal_sealed (o : SObj) (h : o.isMap = false) : o.sealO.sealed = true := by cases o <;> simp_all [SObj.sealO, SObj.sealed, SObj.isMap]
theorem SObj.seal_keeps (o : SObj) (h : o.sealed = true) : o.sealO.sealed = true := by cases o <;> simp_all [SObj.sealO, SObj.sealed]
theorem SObj.seal_map (o : SObj) : o.sealO.isMap = o.isMap := by cases o <;> rfl

/-- What is fixed behind a sealing. -/
def sealI (I : Imm) (ι : Nat → Option Nat) (σ : Store) (m : List Nat) : Imm :=
  fun r k => I r k ∨ ∃ b o, b ∈ m ∧ find σ b = some o ∧ o.isMap = false ∧ ι b = some r ∧ k < o.len * o.es

theorem SimS.sealO (hs : SimS B w I ι σ D) (m : List Nat) :
    SimS B w (sealI I ι σ m) ι (sealAll σ m) D ∧ Later w I ι σ D w (sealI I ι σ m) ι (sealAll σ m) D := by
  have key : ∀ b o₁, find (sealAll σ m) b = some o₁ → ∃ o, find σ b = some o ∧ o₁ = if b ∈ m then o.sealO else o := by
    intro b o₁ h
    rw [find_sealAll, Option.map_eq_some_iff] at h
    obtain ⟨o, ho, h⟩ := h
    exact ⟨o, ho, h.symm⟩
  have hL : Later w I ι σ D w (sealI I ι σ m) ι (sealAll σ m) D := by
    refine ⟨⟨fun r' k v hi hx => ⟨hx, .inl hi⟩, fun _ h => h, fun b' o₁ hD h => ?_, fun r₁ c₁ T₁ fz₁ h₁ => ⟨c₁, fz₁, h₁, rfl⟩, fun _ _ => rfl⟩, fun _ _ _ h => h⟩
    obtain ⟨o, ho, rfl⟩ := key b' o₁ h
    refine ⟨o, ho, ?_, ?_, rfl⟩
    · split; exact SObj.seal_es o; rfl
    · split; exact SObj.seal_len o; rfl
  have hin : ∀ b o r, find σ b = some o → o.isMap = false → ι b = some r → ∃ (c : Array Value) (T : TypeId) (fz : Nat × Nat), w.heap[r]? = some (Obj.cells c T fz) ∧ o.len * o.es ≤ c.size := by
    intro b o r hf hm hr
    have := hs.obj b o hf
    cases o with
    | map ents => simp [SObj.isMap] at hm
    | arr e r' s =>
      rcases this with ⟨h1, _⟩ | ⟨r'', c, T, fz, h1, h2, h3, h4, h5⟩
      · rw [hr] at h1; cases h1
      · rw [hr] at h1; cases h1; exact ⟨c, T, fz, h2, h4⟩
    | box e r' s =>
      rcases this with ⟨h1, _⟩ | ⟨r'', c, T, fz, h1, h2, h3, h4, h5⟩
      · rw [hr] at h1; cases h1
      · rw [hr] at h1; cases h1; exact ⟨c, T, fz, h2, h4⟩
  refine ⟨⟨fun r k hi => ?_, fun b o₁ h => let ⟨o, ho, _⟩ := key b o₁ h; hs.dom b o ho, fun b₁ b₂ o₁ o₂ r h₁ h₂ => let ⟨p₁, q₁, _⟩ := key b₁ o₁ h₁; let ⟨p₂, q₂, _⟩ := key b₂ o₂ h₂; hs.inj b₁ b₂ p₁ p₂ r q₁ q₂,
    fun b o₁ r h => let ⟨o, ho, _⟩ := key b o₁ h; hs.ge b o r ho, fun b o₁ r k h e hi => ?_, fun b o₁ h => ?_⟩, hL⟩
  · rcases hi with hi | ⟨b, o, _, hf, _, hr, _⟩
    · exact hs.bnd r k hi
    · exact hs.lt hf hr
  · obtain ⟨o, ho, rfl⟩ := key b o₁ h
    rcases hi with hi | ⟨b₂, o₂, hb, hf, hm, hr, hk⟩
    · have := hs.sep b o r k ho e hi
      split
      · rw [SObj.seal_len, SObj.seal_es]; exact ⟨SObj.seal_keeps o this.1, this.2⟩
      · exact this
    · have : b = b₂ := hs.inj b b₂ o o₂ r ho hf e hr
      subst this
      rw [ho] at hf; cases hf
      rw [if_pos hb, SObj.seal_len, SObj.seal_es]
      exact ⟨SObj.seal_sealed o hm, hk⟩
  · obtain ⟨o, ho, rfl⟩ := key b o₁ h
    have hob := (hs.obj b o ho).mono hL rfl fun _ _ => rfl
    split
    · cases o with
      | map ents => exact hob
      | arr e r' s =>
        rcases hob with h | ⟨r'', c, T, fz, h1, h2, h3, h4, h5⟩
        · exact .inl h
        · exact .inr ⟨r'', c, T, fz, h1, h2, h3, h4, h5⟩
      | box e r' s =>
        rcases hob with h | ⟨r'', c, T, fz, h1, h2, h3, h4, h5⟩
        · exact .inl h
        · exact .inr ⟨r'', c, T, fz, h1, h2, h3, h4, h5⟩
    · exact hob

/-- A new map. -/
theorem SimS.newMap {nm : Nat} (hs : SimS B w I ι σ D) (hB : B ≤ w.heap.size) (hn : ¬ D nm) (hw : w'.heap = w.heap.push (Obj.map #[] 0)) :
    SimS B w' I (setι ι nm (some w.heap.size)) (upS σ nm (some (.map []))) (addD D nm) ∧ Later w I ι σ D w' I (setι ι nm (some w.heap.size)) (upS σ nm (some (.map []))) (addD D nm) := by
  have hL : Later w I ι σ D w' I (setι ι nm (some w.heap.size)) (upS σ nm (some (.map []))) (addD D nm) := later_new hn hs.bnd hw
  have hnew : w'.heap[w.heap.size]? = some (Obj.map #[] 0) := by rw [hw]; simp
  have hold : ∀ r, r < w.heap.size → w'.heap[r]? = w.heap[r]? := fun r hr => by rw [hw, Array.getElem?_push, if_neg (by omega)]
  have key : ∀ b' o₁, find (upS σ nm (some (.map []))) b' = some o₁ → (b' = nm ∧ o₁ = .map []) ∨ (b' ≠ nm ∧ find σ b' = some o₁) := by
    intro b' o₁ h
    rw [find_upS] at h
    by_cases e : b' = nm
    · rw [if_pos e] at h; cases h; exact .inl ⟨e, rfl⟩
    · rw [if_neg e] at h; exact .inr ⟨e, h⟩
  refine ⟨⟨fun r k hi => ?_, fun b' o₁ h => ?_, fun b₁ b₂ o₁ o₂ r' h₁ h₂ e₁ e₂ => ?_, fun b' o₁ r' h e => ?_, fun b' o₁ r' k h e hi => ?_, fun b' o₁ h => ?_⟩, hL⟩
  · rw [hw, Array.size_push]; have := hs.bnd r k hi; omega
  · rcases key b' o₁ h with ⟨rfl, rfl⟩ | ⟨_, h⟩
    · exact .inr rfl
    · exact .inl (hs.dom b' o₁ h)
  · rcases key b₁ o₁ h₁ with ⟨rfl, rfl⟩ | ⟨n₁, g₁⟩ <;> rcases key b₂ o₂ h₂ with ⟨rfl, rfl⟩ | ⟨n₂, g₂⟩
    · rfl
    · simp only [setι, if_true, if_neg n₂] at e₁ e₂; have := hs.lt g₂ e₂; cases e₁; omega
    · simp only [setι, if_true, if_neg n₁] at e₁ e₂; have := hs.lt g₁ e₁; cases e₂; omega
    · simp only [setι, if_neg n₁, if_neg n₂] at e₁ e₂; exact hs.inj b₁ b₂ o₁ o₂ r' g₁ g₂ e₁ e₂
  · rcases key b' o₁ h with ⟨rfl, rfl⟩ | ⟨n₁, h⟩
    · simp only [setι, if_true] at e; cases e; exact hB
    · simp only [setι, if_neg n₁] at e; exact hs.ge b' o₁ r' h e
  · rcases key b' o₁ h with ⟨rfl, rfl⟩ | ⟨n₁, h⟩
    · simp only [setι, if_true] at e; cases e; have := hs.bnd _ k hi; omega
    · simp only [setι, if_neg n₁] at e; exact hs.sep b' o₁ r' k h e hi
  · rcases key b' o₁ h with ⟨rfl, rfl⟩ | ⟨n₁, h⟩
    · exact ⟨w.heap.size, #[], 0, by simp [setι], hnew, fun e he => by simp at he, fun k v h => by simp [lookupE] at h⟩
    · exact (hs.obj b' o₁ h).mono hL (by simp [setι, n₁]) fun r hr => hold r (hs.lt h hr)

/-- A map's new entry. -/
theorem SimS.putMap {b : Nat} {ents : List (List UInt8 × AV)} {r : Nat} {es : Array MapEntry} {clock : Nat} {k : List UInt8} {v : AV} {e : MapEntry}
    (hs : SimS B w I ι σ D) (hf : find σ b = some (.map ents)) (hι : ι b = some r) (hr : w.heap[r]? = some (Obj.map es clock))
    (hno : lookupE k ents = none) (hk : e.key = .string ⟨k.toArray⟩) (hv : RepA w I ι σ D e.val v)
    (hr' : w'.heap[r]? = some (Obj.map (es.push e) (clock + 1))) (hws : w'.heap.size = w.heap.size) (ho : ∀ k, k ≠ r → w'.heap[k]? = w.heap[k]?) :
    SimS B w' I ι (upS σ b (some (.map (insK k v ents)))) D ∧ Later w I ι σ D w' I ι (upS σ b (some (.map (insK k v ents)))) D := by
  have hI : ∀ k, ¬ I r k := fun k hi => by have := (hs.sep b _ r k hf hι hi).1; simp [SObj.sealed] at this
  have key : ∀ b' o₁, find (upS σ b (some (.map (insK k v ents)))) b' = some o₁ → (b' = b ∧ o₁ = .map (insK k v ents)) ∨ (b' ≠ b ∧ find σ b' = some o₁) := by
    intro b' o₁ h
    rw [find_upS] at h
    by_cases e : b' = b
    · rw [if_pos e] at h; cases h; exact .inl ⟨e, rfl⟩
    · rw [if_neg e] at h; exact .inr ⟨e, h⟩
  have hL : Later w I ι σ D w' I ι (upS σ b (some (.map (insK k v ents)))) D := by
    refine ⟨⟨fun r' k v hi hx => ?_, fun _ h => h, fun b' o₁ hD h => ?_, fun r₁ c₁ T₁ fz₁ h₁ => ?_, fun _ _ => rfl⟩, fun r₁ _ hst h₁ => by
      have : r₁ ≠ r := fun e => by subst e; rw [hr] at h₁; cases h₁; cases hst
      exact (ho r₁ this).trans h₁⟩
    · have : r' ≠ r := fun e => hI k (e ▸ hi)
      exact ⟨(cell?_of_heap (ho r' this)).trans hx, hi⟩
    · rcases key b' o₁ h with ⟨rfl, rfl⟩ | ⟨e, h⟩
      · exact ⟨_, hf, rfl, rfl, rfl⟩
      · exact ⟨o₁, h, rfl, rfl, rfl⟩
    · have : r₁ ≠ r := fun e => by subst e; rw [hr] at h₁; cases h₁
      exact ⟨c₁, fz₁, (ho r₁ this).trans h₁, rfl⟩
  have key2 : ∀ b' o₁, find (upS σ b (some (.map (insK k v ents)))) b' = some o₁ → ∃ o₂, find σ b' = some o₂ := by
    intro b' o₁ h
    rcases key b' o₁ h with ⟨rfl, rfl⟩ | ⟨_, h⟩
    · exact ⟨_, hf⟩
    · exact ⟨o₁, h⟩
  refine ⟨⟨fun r' k hi => by rw [hws]; exact hs.bnd r' k hi, fun b' o₁ h => let ⟨o₂, h₂⟩ := key2 b' o₁ h; hs.dom b' o₂ h₂,
    fun b₁ b₂ o₁ o₂ r' h₁ h₂ => let ⟨p₁, q₁⟩ := key2 b₁ o₁ h₁; let ⟨p₂, q₂⟩ := key2 b₂ o₂ h₂; hs.inj b₁ b₂ p₁ p₂ r' q₁ q₂,
    fun b' o₁ r' h => let ⟨o₂, h₂⟩ := key2 b' o₁ h; hs.ge b' o₂ r' h₂, fun b' o₁ r' k h e hi => ?_, fun b' o₁ h => ?_⟩, hL⟩
  · rcases key b' o₁ h with ⟨rfl, rfl⟩ | ⟨_, h⟩
    · rw [hι] at e; cases e; exact absurd hi (hI k)
    · exact hs.sep b' o₁ r' k h e hi
  · rcases key b' o₁ h with ⟨rfl, rfl⟩ | ⟨hne, h⟩
    · obtain ⟨r₂, es₂, cl₂, h1, h2, h3, h4⟩ := hs.obj b' _ hf
      rw [hι] at h1; cases h1; rw [hr] at h2; cases h2
      refine ⟨r, es.push e, clock + 1, hι, hr', fun e₁ he₁ => ?_, fun k₁ v₁ hl₁ => ?_⟩
      · simp only [Array.toList_push, List.mem_append, List.mem_singleton] at he₁
        rcases he₁ with he₁ | rfl
        · obtain ⟨k₁, v₁, a1, a2, a3⟩ := h3 e₁ he₁
          have hne : k₁ ≠ k := fun e => by subst e; rw [hno] at a2; cases a2
          exact ⟨k₁, v₁, a1, by rw [lookupE_insK_ne hne]; exact a2, a3.mono hL⟩
        · exact ⟨k, v, hk, lookupE_insK_eq _ hno, hv.mono hL⟩
      · by_cases e' : k₁ = k
        · subst e'; exact ⟨e, by simp, hk⟩
        · rw [lookupE_insK_ne e'] at hl₁
          obtain ⟨e₁, m1, m2⟩ := h4 k₁ v₁ hl₁
          exact ⟨e₁, by simp [m1], m2⟩
    · refine (hs.obj b' o₁ h).mono hL rfl fun r' hr₁ => ho r' fun e => hne ?_
      exact hs.inj b' b o₁ _ r h hf (e ▸ hr₁) hι
end
end Go.Ab
