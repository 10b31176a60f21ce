/- A published value is pure from then on. Under: nothing. -/
import Derived.Test.YthpnccneaaeomaaAb23
import Derived.Test.YthpnccneaaeomaaAb27
namespace Go.Ab
open Go.RowKit
section
variable {B : Nat} {w : World} {I : Imm} {ι : Nat → Option Nat} {σ : Store} {D : Nat → Prop} {M : List Nat}

theorem own_pub (hs : SimS B w I ι σ D) {b i n : Nat} {o : SObj} {v : Value} {ps : List (List PV)} (hM : b ∈ M) (hf : find σ b = some o) (hm : o.isMap = false) (hv : OwnVal w ι o b i n v)
    (hl : ps.length = n) (hrow : ∀ k, k < n → ∃ row prow, o.row? (i + k) = some row ∧ ps[k]? = some prow ∧ row.length = prow.length ∧
      ∀ (j : Nat) (a : AV) (q : PV) (x : Value), row[j]? = some a → prow[j]? = some q → RepA w I ι σ D x a → RepP w (sealI I ι σ M) x q) : RepP w (sealI I ι σ M) v (.sl o.es ps) := by
  obtain ⟨p, cap, rfl, hin, hcap, hcase⟩ := hv
  by_cases h0 : n = 0
  · subst h0
    have : ps = [] := List.eq_nil_of_length_eq_zero hl
    subst this
    exact .sl (fun _ _ => default) rfl (by omega) (fun i row h => by simp at h) (fun h => absurd rfl h) (fun i j row q h => by simp at h)
  · rcases hcase with ⟨h, _⟩ | ⟨r, c, T, fz, hr, rfl, hheap, hsz⟩
    · exact absurd h h0
    · have cell : ∀ k j, k < n → j < o.es → ∃ row prow a q x, o.row? (i + k) = some row ∧ ps[k]? = some prow ∧ row[j]? = some a ∧ prow[j]? = some q ∧ c[(i + k) * o.es + j]? = some x ∧ RepC w I ι σ D x a ∧ RepP w (sealI I ι σ M) x q := by
        intro k j hk hj
        obtain ⟨row, prow, h1, h2, h3, h4⟩ := hrow k hk
        obtain ⟨r', c', T', fz', k1, k2, k3, k4, k5, k6⟩ := row_cells hs hf h1
        rw [hr] at k1; cases k1
        rw [hheap] at k2; cases k2
        have ha : j < row.length := by rw [k5]; exact hj
        have hq : j < prow.length := by rw [← h3]; exact ha
        obtain ⟨x, hx, hrep⟩ := k6 j _ (List.getElem?_eq_getElem ha)
        exact ⟨row, prow, _, _, x, h1, h2, List.getElem?_eq_getElem ha, List.getElem?_eq_getElem hq, hx, hrep, h4 j _ _ x (List.getElem?_eq_getElem ha) (List.getElem?_eq_getElem hq) hrep.2⟩
      refine .sl (fun k j => (c[(i + k) * o.es + j]?).getD default) hl (by omega) (fun k prow h => ?_) (fun _ => ⟨_, rfl, rfl, fun k j hk hj => ?_⟩) (fun k j prow q h hq => ?_)
      · obtain ⟨row, prow', h1, h2, h3, _⟩ := hrow k (by rw [← hl]; exact (List.getElem?_eq_some_iff.1 h).1)
        rw [h2] at h; cases h
        obtain ⟨_, _, _, _, _, _, _, _, k5, _⟩ := row_cells hs hf h1
        rw [← h3, k5]
      · obtain ⟨row, prow, a, q, x, h1, h2, h3, h4, h5, h6, h7⟩ := cell k j (by omega) hj
        have e : i * o.es + (k * o.es + j) = (i + k) * o.es + j := by rw [Nat.add_mul]; omega
        refine ⟨?_, ?_, ?_⟩
        · rw [cell_of hheap, e, h5]; rfl
        · refine .inr ⟨b, o, hM, hf, hm, hr, ?_⟩
          rw [e]
          have : i + k < o.len := by omega
          calc (i + k) * o.es + j < (i + k) * o.es + o.es := by omega
            _ = (i + k + 1) * o.es := by rw [Nat.add_mul (i + k) 1, Nat.one_mul]
            _ ≤ o.len * o.es := Nat.mul_le_mul_right _ this
        · rw [h5]; exact h6.1
      · have hk : k < n := by rw [← hl]; exact (List.getElem?_eq_some_iff.1 h).1
        obtain ⟨row, prow', h1, h2, h3, _⟩ := hrow k hk
        rw [h2] at h; cases h
        have hj : j < o.es := by
          obtain ⟨_, _, _, _, _, _, _, _, k5, _⟩ := row_cells hs hf h1
          rw [← k5, h3]; exact (List.getElem?_eq_some_iff.1 hq).1
        obtain ⟨row', prow', a, q', x, g1, g2, g3, g4, g5, g6, g7⟩ := cell k j hk hj
        rw [h2] at g2; cases g2
        rw [hq] at g4; cases g4
        rw [g5]; exact g7

theorem keeps_seal : Keeps w I w (sealI I ι σ M) := fun _ _ _ hi hx => ⟨hx, .inl hi⟩

/-- What 'f' publishes is pure. -/
def PubOk (w : World) (I : Imm) (ι : Nat → Option Nat) (σ : Store) (D : Nat → Prop) (M : List Nat) (f : AV → Option (PV × List Nat)) : Prop :=
  ∀ a p m v, f a = some (p, m) → (∀ b ∈ m, b ∈ M) → RepA w I ι σ D v a → RepP w (sealI I ι σ M) v p

theorem pubL_rep {f : AV → Option (PV × List Nat)} (hf : PubOk w I ι σ D M f) : ∀ (l : List AV) (ps : List PV) (m : List Nat), pubL f l = some (ps, m) → (∀ b ∈ m, b ∈ M) →
    l.length = ps.length ∧ ∀ (j : Nat) (a : AV) (q : PV) (x : Value), l[j]? = some a → ps[j]? = some q → RepA w I ι σ D x a → RepP w (sealI I ι σ M) x q
  | [], ps, m, h, _ => by simp only [pubL] at h; cases h; exact ⟨rfl, fun j a q x h => by simp at h⟩
  | a :: l, ps, m, h, hm => by
    simp only [pubL] at h
    split at h
    · rename_i p n hp
      split at h
      · rename_i ps' m' hps
        cases h
        obtain ⟨e, hr⟩ := pubL_rep hf l ps' m' hps fun b hb => hm b (List.mem_append_right _ hb)
        refine ⟨by simp [e], fun j a' q x ha hq hx => ?_⟩
        cases j with
        | zero => simp at ha hq; subst ha; subst hq; exact hf _ _ _ x hp (fun b hb => hm b (List.mem_append_left _ hb)) hx
        | succ j => simp at ha hq; exact hr j a' q x ha hq hx
      · cases h
    · cases h

theorem pubR_rep {f : AV → Option (PV × List Nat)} (hf : PubOk w I ι σ D M f) : ∀ (l : List (List AV)) (ps : List (List PV)) (m : List Nat), pubR f l = some (ps, m) → (∀ b ∈ m, b ∈ M) →
    l.length = ps.length ∧ ∀ (k : Nat) (row : List AV) (prow : List PV), l[k]? = some row → ps[k]? = some prow → row.length = prow.length ∧
      ∀ (j : Nat) (a : AV) (q : PV) (x : Value), row[j]? = some a → prow[j]? = some q → RepA w I ι σ D x a → RepP w (sealI I ι σ M) x q
  | [], ps, m, h, _ => by simp only [pubR] at h; cases h; exact ⟨rfl, fun j a q h => by simp at h⟩
  | a :: l, ps, m, h, hm => by
    simp only [pubR] at h
    split at h
    · rename_i p n hp
      split at h
      · rename_i ps' m' hps
        cases h
        obtain ⟨e, hr⟩ := pubR_rep hf l ps' m' hps fun b hb => hm b (List.mem_append_right _ hb)
        refine ⟨by simp [e], fun j row prow ha hq => ?_⟩
        cases j with
        | zero => simp at ha hq; subst ha; subst hq; exact pubL_rep hf _ _ _ hp fun b hb => hm b (List.mem_append_left _ hb)
        | succ j => simp at ha hq; exact hr j row prow ha hq
      · cases h
    · cases h

theorem pub_rep (hs : SimS B w I ι σ D) : ∀ k, PubOk w I ι σ D M (pub σ k) := by
  have pure : ∀ {v : Value} {p : PV}, RepA w I ι σ D v (.pv p) → RepP w (sealI I ι σ M) v p := fun h => by cases h with | pv h => exact h.mono keeps_seal
  have emp : ∀ {v : Value} {es : Nat}, RepA w I ι σ D v (.emp es) → RepP w (sealI I ι σ M) v (.emp es) := fun h => by
    cases h
    exact .emp _
  have fsl : ∀ {v : Value} {es : Nat} {rows : List (List PV)}, RepA w I ι σ D v (.fsl es rows) → RepP w (sealI I ι σ M) v (.sl es rows) := fun h => by
    cases h with | fsl h => exact h.mono keeps_seal
  intro k
  induction k with
  | zero =>
    intro a p m v h hm hv
    cases a <;> simp only [pub] at h <;> cases h
    · exact pure hv
    · exact emp hv
    · exact fsl hv
  | succ k ih =>
    intro a p m v h hm hv
    cases a with
    | pv p => simp only [pub] at h; cases h; exact pure hv
    | emp es => simp only [pub] at h; cases h; exact emp hv
    | fsl es rows => simp only [pub] at h; cases h; exact fsl hv
    | agg cs =>
      simp only [pub] at h
      split at h
      · rename_i ps n hp
        cases h
        cases hv with
        | agg hl h =>
          obtain ⟨e, hr⟩ := pubL_rep ih _ _ _ hp hm
          refine .agg (by rw [hl, e]) fun j x q hx hq => ?_
          have hj : j < cs.length := by rw [e]; exact (List.getElem?_eq_some_iff.1 hq).1
          exact hr j _ q x (List.getElem?_eq_getElem hj) hq (h j x _ hx (List.getElem?_eq_getElem hj))
      · cases h
    | tup cs =>
      simp only [pub] at h
      split at h
      · rename_i ps n hp
        cases h
        cases hv with
        | tup hl h =>
          obtain ⟨e, hr⟩ := pubL_rep ih _ _ _ hp hm
          refine .tup (by rw [hl, e]) fun j x q hx hq => ?_
          have hj : j < cs.length := by rw [e]; exact (List.getElem?_eq_some_iff.1 hq).1
          exact hr j _ q x (List.getElem?_eq_getElem hj) hq (h j x _ hx (List.getElem?_eq_getElem hj))
      · cases h
    | func fn a b =>
      simp only [pub] at h
      split at h
      · rename_i ps n hp
        split at h
        · rename_i qs n' hq
          cases h
          cases hv with
          | func hl hl' h1 h2 =>
            obtain ⟨e, hr⟩ := pubL_rep ih _ _ _ hp fun b hb => hm b (List.mem_append_left _ hb)
            obtain ⟨e', hr'⟩ := pubL_rep ih _ _ _ hq fun b hb => hm b (List.mem_append_right _ hb)
            refine .func (by rw [hl, e]) (by rw [hl', e']) (fun j x q hx hq => ?_) (fun j x q hx hq => ?_)
            · have hj : j < a.length := by rw [e]; exact (List.getElem?_eq_some_iff.1 hq).1
              exact hr j _ q x (List.getElem?_eq_getElem hj) hq (h1 j x _ hx (List.getElem?_eq_getElem hj))
            · have hj : j < b.length := by rw [e']; exact (List.getElem?_eq_some_iff.1 hq).1
              exact hr' j _ q x (List.getElem?_eq_getElem hj) hq (h2 j x _ hx (List.getElem?_eq_getElem hj))
        · cases h
      · cases h
    | own b i n =>
      simp only [pub] at h
      split at h
      · rename_i es rows s hf
        cases h
        cases hv with
        | own hD h1 hv =>
          have hov := hv _ hf
          have hin : i + n ≤ rows.length := by obtain ⟨_, _, _, h, _⟩ := hov; exact h
          refine own_pub (o := .arr es rows s) hs (hm b (by simp)) hf rfl hov (by simp; omega) fun k hk => ?_
          have hk' : i + k < rows.length := by omega
          refine ⟨(rows[i + k]).map .pv, rows[i + k], by simp [SObj.row?, hk'], by simp [List.getElem?_take_of_lt hk, hk'], by simp, fun j a q x ha hq hx => ?_⟩
          rw [List.getElem?_map, hq] at ha
          simp at ha; subst ha
          exact pure hx
      · rename_i es rows s hf
        split at h
        · rename_i ps m' hp
          cases h
          cases hv with
          | own hD h1 hv =>
            have hov := hv _ hf
            have hin : i + n ≤ rows.length := by obtain ⟨_, _, _, h, _⟩ := hov; exact h
            obtain ⟨e, hr⟩ := pubR_rep ih _ _ _ hp fun b' hb => hm b' (List.mem_cons_of_mem _ hb)
            have hlen : ps.length = n := by rw [← e]; simp; omega
            refine own_pub (o := .box es rows s) hs (hm b (by simp)) hf rfl hov hlen fun k hk => ?_
            have hk' : i + k < rows.length := by omega
            have hpk : k < ps.length := by omega
            obtain ⟨g1, g2⟩ := hr k rows[i + k] ps[k] (by simp [List.getElem?_take_of_lt hk, hk']) (List.getElem?_eq_getElem hpk)
            exact ⟨rows[i + k], ps[k], by simp [SObj.row?, hk'], List.getElem?_eq_getElem hpk, g1, g2⟩
        · cases h
      · cases h
    | ptr b i j =>
      simp only [pub] at h
      split at h
      · rename_i o hf
        split at h
        · rename_i row hrow
          split at h
          · rename_i ps m' hp
            cases h
            cases hv with
            | ptr hD h1 hv =>
              obtain ⟨r, hr, rfl⟩ := hv o hf
              obtain ⟨e, hr'⟩ := pubL_rep ih _ _ _ hp fun b' hb => hm b' (List.mem_cons_of_mem _ hb)
              obtain ⟨r', c, T, fz, k1, k2, k3, k4, k5, k6⟩ := row_cells hs hf hrow
              rw [hr] at k1; cases k1
              have hmap : o.isMap = false := by cases o <;> simp_all [SObj.row?, SObj.isMap]
              have hi : i < o.len := by
                cases o with
                | map ents => simp [SObj.row?] at hrow
                | arr e rs s => simp only [SObj.row?] at hrow; split at hrow <;> cases hrow; rename_i h; exact (List.getElem?_eq_some_iff.1 h).1
                | box e rs s => exact (List.getElem?_eq_some_iff.1 hrow).1
              have cell : ∀ k, k < ps.length → ∃ a x, (row.drop j)[k]? = some a ∧ c[i * o.es + (j + k)]? = some x ∧ RepC w I ι σ D x a := by
                intro k hk
                have hk' : k < (row.drop j).length := by rw [e]; exact hk
                have ha := List.getElem?_eq_getElem hk'
                have ha' := ha
                rw [List.getElem?_drop] at ha'
                obtain ⟨x, hx, hrep⟩ := k6 (j + k) _ ha'
                exact ⟨_, x, ha, hx, hrep⟩
              refine .ref (fun k => (c[i * o.es + j + k]?).getD default) rfl (fun k hk => ?_) (fun k q hq => ?_)
              · obtain ⟨a, x, ha, hx, hrep⟩ := cell k hk
                have e2 : i * o.es + j + k = i * o.es + (j + k) := by omega
                refine ⟨?_, ?_, ?_⟩
                · rw [cell_of k2, e2, hx]; rfl
                · refine .inr ⟨b, o, hm b (by simp), hf, hmap, hr, ?_⟩
                  have hjk : j + k < o.es := by
                    rw [← k5]
                    have := (List.getElem?_eq_some_iff.1 ha).1
                    simp at this; omega
                  show i * o.es + j + k < _
                  calc i * o.es + j + k < i * o.es + o.es := by omega
                    _ = (i + 1) * o.es := by rw [Nat.add_mul, Nat.one_mul]
                    _ ≤ o.len * o.es := Nat.mul_le_mul_right _ hi
                · rw [e2, hx]; exact hrep.1
              · obtain ⟨a, x, ha, hx, hrep⟩ := cell k (List.getElem?_eq_some_iff.1 hq).1
                have e2 : i * o.es + j + k = i * o.es + (j + k) := by omega
                rw [e2, hx]
                exact hr' k a q x ha hq hrep.2
          · cases h
        · cases h
      · cases h
    | mref b => simp only [pub] at h; cases h
    | anyB => simp only [pub] at h; cases h
    | yld b => simp only [pub] at h; cases h
    | mark k => simp only [pub] at h; cases h
    | undef => simp only [pub] at h; cases h
end
end Go.Ab
