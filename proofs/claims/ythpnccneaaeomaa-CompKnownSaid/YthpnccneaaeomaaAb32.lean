/- Dropping and numbering anew is sound. Under: nothing. -/
import Derived.Test.YthpnccneaaeomaaAb31
namespace Go.Ab
open Go.RowKit

theorem idxIn_spec : ∀ {l : List Nat} {b k n : Nat}, idxIn l b k = some n → k ≤ n ∧ n < k + l.length ∧ l[n - k]? = some b
  | [], _, _, _, h => by simp [idxIn] at h
  | x :: l, b, k, n, h => by
    simp only [idxIn] at h
    split at h
    · rename_i hx
      cases h
      simp at hx
      subst hx
      exact ⟨Nat.le_refl _, by simp, by simp⟩
    · obtain ⟨h1, h2, h3⟩ := idxIn_spec h
      refine ⟨by omega, by simp; omega, ?_⟩
      have e : n - k = (n - (k + 1)) + 1 := by omega
      rw [e]; simpa using h3

theorem find_normS (f : Nat → Option Nat) (σ : Store) : ∀ (l : List Nat) (k n : Nat) (o : SObj), find (normS f σ l k) n = some o → k ≤ n ∧ ∃ b o', l[n - k]? = some b ∧ find σ b = some o' ∧ o = renO f o'
  | [], _, _, _, h => by simp [normS, find] at h
  | b :: l, k, n, o, h => by
    simp only [normS, find] at h
    split at h
    · rename_i hk
      simp at hk; subst hk
      split at h
      · rename_i o' ho'
        cases h
        exact ⟨Nat.le_refl _, b, o', by simp, ho', rfl⟩
      · cases h
    · obtain ⟨h1, b', o', h2, h3, h4⟩ := find_normS f σ l (k + 1) n o h
      refine ⟨by omega, b', o', ?_, h3, h4⟩
      have e : n - k = (n - (k + 1)) + 1 := by omega
      rw [e]; simpa using h2

theorem reach_nodup (σ : Store) : ∀ (n : Nat) (todo acc : List Nat), acc.Nodup → (reach σ n todo acc).Nodup
  | 0, _, acc, h => by simpa [reach] using h
  | n + 1, [], acc, h => by simpa [reach] using h
  | n + 1, b :: todo, acc, h => by
    simp only [reach]
    split
    · exact reach_nodup σ n todo acc h
    · rename_i hb
      split
      · exact reach_nodup σ n todo acc h
      · refine reach_nodup σ n _ _ ?_
        rw [List.nodup_append]
        refine ⟨h, by simp, fun x hx y hy => ?_⟩
        simp at hy; subst hy
        intro e; subst e
        simp only [List.any_eq_false, beq_iff_eq] at hb
        exact hb x hx rfl

theorem renO_es (f : Nat → Option Nat) (o : SObj) : (renO f o).es = o.es := by cases o <;> rfl
theorem renO_len (f : Nat → Option Nat) (o : SObj) : (renO f o).len = o.len := by cases o <;> simp [renO, SObj.len]
theorem renO_sealed (f : Nat → Option Nat) (o : SObj) : (renO f o).sealed = o.sealed := by cases o <;> rfl

theorem renL_map (f : Nat → Option Nat) : ∀ l : List AV, renL f l = l.map (renA f)
  | [] => rfl
  | a :: l => by simp only [renL, List.map_cons]; rw [renL_map f l]

theorem renO_row (f : Nat → Option Nat) (o : SObj) (i : Nat) (row : List AV) (h : (renO f o).row? i = some row) : ∃ row', o.row? i = some row' ∧ row = row'.map (renA f) := by
  cases o with
  | map l => simp [renO, SObj.row?] at h
  | arr e r s =>
    refine ⟨row, h, ?_⟩
    simp only [renO, SObj.row?] at h
    split at h
    · cases h
      simp only [List.map_map]
      apply List.map_congr_left
      intro p _; rfl
    · cases h
  | box e r s =>
    simp only [renO, SObj.row?, List.getElem?_map, Option.map_eq_some_iff] at h
    obtain ⟨row', h1, rfl⟩ := h
    exact ⟨row', h1, renL_map f row'⟩

section
variable {B : Nat} {w0 : World} {I0 : Imm} {w : World} {I : Imm} {ι : Nat → Option Nat} {σ : Store} {D : Nat → Prop} {ns : List Nat}

/-- The numbers' blocks. -/
def normι (ι : Nat → Option Nat) (ns : List Nat) : Nat → Option Nat := fun n => (ns[n]?).bind ι
def normD (ns : List Nat) : Nat → Prop := fun n => n < ns.length

theorem norm_find {n : Nat} {o : SObj} (h : find (normS (fun b => idxIn ns b 0) σ ns 0) n = some o) : ∃ b o', ns[n]? = some b ∧ find σ b = some o' ∧ o = renO (fun b => idxIn ns b 0) o' ∧ normι ι ns n = ι b := by
  obtain ⟨_, b, o', h1, h2, h3⟩ := find_normS _ _ _ _ _ _ h
  simp only [Nat.sub_zero] at h1
  exact ⟨b, o', h1, h2, h3, by simp [normι, h1]⟩

theorem RepA.norm {v : Value} {a : AV} (h : RepA w I ι σ D v a) : RepA w I (normι ι ns) (normS (fun b => idxIn ns b 0) σ ns 0) (normD ns) v (renA (fun b => idxIn ns b 0) a) := by
  have key : ∀ {b n : Nat}, idxIn ns b 0 = some n → normD ns n ∧ ns[n]? = some b := by
    intro b n h
    obtain ⟨_, h2, h3⟩ := idxIn_spec h
    exact ⟨by simpa [normD] using h2, by simpa using h3⟩
  induction h with
  | pv h => simp only [renA]; exact .pv h
  | emp es => simp only [renA]; exact .emp es
  | fsl h => simp only [renA]; exact .fsl h
  | ptr hD h1 h =>
    simp only [renA]
    split
    · rename_i n hn
      obtain ⟨k1, k2⟩ := key hn
      refine .ptr k1 h1 fun o ho => ?_
      obtain ⟨b', o', g1, g2, g3, g4⟩ := norm_find (ι := ι) ho
      rw [k2] at g1; cases g1
      obtain ⟨r, hr, hv⟩ := h o' g2
      exact ⟨r, g4.trans hr, by rw [g3, renO_es]; exact hv⟩
    · exact .undef _
  | own hD h1 h =>
    simp only [renA]
    split
    · rename_i n hn
      obtain ⟨k1, k2⟩ := key hn
      refine .own k1 h1 fun o ho => ?_
      obtain ⟨b', o', g1, g2, g3, g4⟩ := norm_find (ι := ι) ho
      rw [k2] at g1; cases g1
      obtain ⟨p, cap, hv, hlen, hcap, hcase⟩ := h o' g2
      refine ⟨p, cap, hv, by rw [g3, renO_len]; exact hlen, ⟨hcap.1, by rw [g3, renO_len]; exact hcap.2⟩, ?_⟩
      rcases hcase with hx | ⟨r, c, T, fz, h1, h2, h3, h4⟩
      · exact .inl hx
      · exact .inr ⟨r, c, T, fz, g4.trans h1, by rw [g3, renO_es]; exact h2, h3, by rw [g3, renO_es]; exact h4⟩
    · exact .undef _
  | mref hD h1 h =>
    simp only [renA]
    split
    · rename_i n hn
      obtain ⟨k1, k2⟩ := key hn
      refine .mref k1 h1 fun o ho => ?_
      obtain ⟨b', o', g1, g2, g3, g4⟩ := norm_find (ι := ι) ho
      rw [k2] at g1; cases g1
      obtain ⟨r, hr, hv⟩ := h o' g2
      exact ⟨r, g4.trans hr, hv⟩
    · exact .undef _
  | agg hl _ ih =>
    simp only [renA, renL_map]
    refine .agg (by simpa using hl) fun j x q hx hq => ?_
    rw [List.getElem?_map, Option.map_eq_some_iff] at hq
    obtain ⟨q', hq', rfl⟩ := hq
    exact ih j x q' hx hq'
  | tup hl _ ih =>
    simp only [renA, renL_map]
    refine .tup (by simpa using hl) fun j x q hx hq => ?_
    rw [List.getElem?_map, Option.map_eq_some_iff] at hq
    obtain ⟨q', hq', rfl⟩ := hq
    exact ih j x q' hx hq'
  | func hl hl' _ _ ih ih' =>
    simp only [renA, renL_map]
    refine .func (by simpa using hl) (by simpa using hl') (fun j x q hx hq => ?_) (fun j x q hx hq => ?_)
    · rw [List.getElem?_map, Option.map_eq_some_iff] at hq
      obtain ⟨q', hq', rfl⟩ := hq
      exact ih j x q' hx hq'
    · rw [List.getElem?_map, Option.map_eq_some_iff] at hq
      obtain ⟨q', hq', rfl⟩ := hq
      exact ih' j x q' hx hq'
  | anyB b => simp only [renA]; exact .anyB b
  | yld hD h => simp only [renA]; exact .undef _
  | mark v k => simp only [renA]; exact .undef _
  | undef v => simp only [renA]; exact .undef v

theorem SimS.norm (hs : SimS B w I ι σ D) (hnd : ns.Nodup) : SimS B w I (normι ι ns) (normS (fun b => idxIn ns b 0) σ ns 0) (normD ns) := by
  refine ⟨hs.bnd, fun n o h => ?_, fun n n' o o' r h h' e e' => ?_, fun n o r h e => ?_, fun n o r k h e hi => ?_, fun n o h => ?_⟩
  · obtain ⟨b, o', h1, h2, h3, h4⟩ := norm_find (ι := ι) h
    exact (List.getElem?_eq_some_iff.1 h1).1
  · obtain ⟨b, o₁, h1, h2, h3, h4⟩ := norm_find (ι := ι) h
    obtain ⟨b', o₁', h1', h2', h3', h4'⟩ := norm_find (ι := ι) h'
    have : b = b' := hs.inj b b' o₁ o₁' r h2 h2' (h4 ▸ e) (h4' ▸ e')
    subst this
    exact (List.getElem?_inj (List.getElem?_eq_some_iff.1 h1).1 hnd).1 (h1.trans h1'.symm)
  · obtain ⟨b, o₁, h1, h2, h3, h4⟩ := norm_find (ι := ι) h
    exact hs.ge b o₁ r h2 (h4 ▸ e)
  · obtain ⟨b, o₁, h1, h2, h3, h4⟩ := norm_find (ι := ι) h
    rw [h3, renO_sealed, renO_len, renO_es]
    exact hs.sep b o₁ r k h2 (h4 ▸ e) hi
  · obtain ⟨b, o₁, h1, h2, h3, h4⟩ := norm_find (ι := ι) h
    have hob := hs.obj b o₁ h2
    subst h3
    have rows : RowsRep w I ι σ D b o₁ → RowsRep w I (normι ι ns) (normS (fun b => idxIn ns b 0) σ ns 0) (normD ns) n (renO (fun b => idxIn ns b 0) o₁) := by
      intro hR
      rcases hR with ⟨g1, g2⟩ | ⟨r, c, T, fz, g1, g2, g3, g4, g5⟩
      · exact .inl ⟨h4.trans g1, by rw [renO_len]; exact g2⟩
      · refine .inr ⟨r, c, T, fz, h4.trans g1, g2, g3, by rw [renO_len, renO_es]; exact g4, fun i row hrow => ?_⟩
        obtain ⟨row', k1, rfl⟩ := renO_row _ _ _ _ hrow
        obtain ⟨k2, k3⟩ := g5 i row' k1
        refine ⟨by rw [List.length_map, renO_es]; exact k2, fun j v hv => ?_⟩
        rw [List.getElem?_map, Option.map_eq_some_iff] at hv
        obtain ⟨v', hv', rfl⟩ := hv
        obtain ⟨x, hx, hrep⟩ := k3 j v' hv'
        exact ⟨x, by rw [renO_es]; exact hx, hrep.1, hrep.2.norm⟩
    cases o₁ with
    | arr e r s => exact rows hob
    | box e r s => exact rows hob
    | map ents =>
      obtain ⟨r, es, clock, g1, g2, g3, g4⟩ := hob
      have hlk : ∀ (f : Nat → Option Nat) (k : List UInt8) (l : List (List UInt8 × AV)), lookupE k (l.map fun (k, v) => (k, renA f v)) = (lookupE k l).map (renA f) := by
        intro f k l
        induction l with
        | nil => rfl
        | cons x l ih =>
          obtain ⟨a, v⟩ := x
          simp only [List.map_cons, lookupE]
          split
          · rfl
          · exact ih
      refine ⟨r, es, clock, h4.trans g1, g2, fun e he => ?_, fun k v hv => ?_⟩
      · obtain ⟨k, v, a1, a2, a3⟩ := g3 e he
        exact ⟨k, _, a1, by rw [hlk, a2]; rfl, a3.norm⟩
      · rw [hlk, Option.map_eq_some_iff] at hv
        obtain ⟨v', hv', _⟩ := hv
        exact g4 k v' hv'
end

theorem get_normT (f : Nat → Option Nat) (tm : T) : ∀ (l : List Nat) (acc : T) (t : Nat), (normT f tm l acc).get tdepth t = acc.get tdepth t ∨ (∃ u, u % 2 ^ tdepth = t % 2 ^ tdepth ∧ (normT f tm l acc).get tdepth t = renA f (tm.get tdepth u))
  | [], acc, t => .inl rfl
  | u :: l, acc, t => by
    simp only [normT]
    rcases get_normT f tm l (acc.set tdepth u (renA f (tm.get tdepth u))) t with h | h
    · rw [h, get_set]
      by_cases e : t % 2 ^ tdepth = u % 2 ^ tdepth
      · rw [if_pos e]; exact .inr ⟨u, e.symm, rfl⟩
      · rw [if_neg e]; exact .inl rfl
    · exact .inr h

theorem get_mod : ∀ (d : Nat) (t : T) (n m : Nat), n % 2 ^ d = m % 2 ^ d → t.get d n = t.get d m
  | 0, t, n, m, _ => by cases t <;> simp [T.get]
  | d + 1, t, n, m, h => by
    have hmod : ∀ x : Nat, x % 2 ^ (d + 1) = x % 2 + 2 * (x / 2 % 2 ^ d) := by
      intro x; rw [Nat.pow_succ, Nat.mul_comm, Nat.mod_mul]
    rw [hmod, hmod] at h
    have h2 : n % 2 = m % 2 := by omega
    have hq : n / 2 % 2 ^ d = m / 2 % 2 ^ d := by omega
    cases t with
    | nil => simp [T.get]
    | leaf v => simp [T.get]
    | node l r =>
      simp only [T.get, h2]
      split
      · exact get_mod d l _ _ hq
      · exact get_mod d r _ _ hq

theorem get_nil (d n : Nat) : T.get d .nil n = .undef := by cases d <;> simp [T.get]

theorem Sim.norm {P : Program} {G : Gl} {B : Nat} {w0 : World} {I0 : Imm} {N : Nat → Prop} {s : St} {a : Act} {w : World} (h : Sim P G B w0 I0 .top N s a w) (live : List Nat) :
    Sim P G B w0 I0 .top (fun b => b < (norm live s).nx) (Ab.norm live s) a w := by
  obtain ⟨I, ι, D, hx⟩ := h
  have hnd : (normNames live s).Nodup := reach_nodup _ _ _ _ (by simp)
  obtain ⟨hs, b1, b2, b3, b4⟩ := hx.core
  refine ⟨I, normι ι (normNames live s), normD (normNames live s), ⟨hs.norm hnd, b1, b2, b3, b4⟩, fun b hb => hb, hx.dfs, hx.size, hx.glob, fun t ht => ?_, fun _ _ h => h.elim, fun _ _ => .inl trivial, fun _ _ h => h.elim, fun _ h => by cases h⟩
  show RepA w I _ _ _ _ ((normT _ s.tm live .nil).get tdepth t)
  rcases get_normT (fun b => idxIn (normNames live s) b 0) s.tm live .nil t with h | ⟨u, hu, h⟩
  · rw [h, get_nil]; exact .undef _
  · rw [h, get_mod tdepth s.tm u t hu]
    exact (hx.tm t ht).norm
end Go.Ab
