/- One operation's soundness: stores. Under: nothing. -/
import Derived.Test.YthpnccneaaeomaaAb15
namespace Go.Ab
open Go.RowKit
section
variable {P : Program} {B : Nat} {w0 : World} {I0 : Imm} {w w' : World} {I : Imm} {ι : Nat → Option Nat} {σ : Store} {D : Nat → Prop} {nm : Nat} {ρ : Operand → Value} {ev : RA → AV} {e : Eff}

/-- Cells put over others from o on. -/
def Put (c c' : Array Value) (o : Nat) (vs : List Value) : Prop :=
  c'.size = c.size ∧ ∀ k, c'[k]? = if o ≤ k ∧ k < o + vs.length then vs[k - o]? else c[k]?

theorem run_storeCells' (g o : Nat) : ∀ (vs : List Value) (i : Nat) (c : Array Value) (T : TypeId) (fz : Nat × Nat) (w : World), w.heap[g]? = some (Obj.cells c T fz) → Fz c fz → o + i + vs.length ≤ c.size → (∀ v ∈ vs, v.oneCell' = true) →
    B ≤ g → Below B w0 w →
    ∃ w' c', (storeCells ⟨g, o, none⟩ vs i).run P w = .ok () w' ∧ w'.heap[g]? = some (Obj.cells c' T fz) ∧ Put c c' (o + i) vs ∧ (∀ k, k ≠ g → w'.heap[k]? = w.heap[k]?) ∧ w'.heap.size = w.heap.size ∧ Below B w0 w'
  | [], i, c, T, fz, w, hg, hf, hl, hv, hB, hb => ⟨w, c, rfl, hg, ⟨rfl, fun k => by rw [if_neg (by simp only [List.length_nil]; omega)]⟩, fun _ _ => rfl, rfl, hb⟩
  | v :: vs, i, c, T, fz, w, hg, hf, hl, hv, hB, hb => by
    simp only [List.length_cons] at hl
    have hlt : o + i < c.size := by omega
    have hcell : w.cell? ⟨g, o + i, none⟩ = some c[o + i] := by rw [cell_of hg]; exact Array.getElem?_eq_getElem hlt
    have hfr : w.frozen? ⟨g, o + i, none⟩ = false := by
      unfold World.frozen? Fz at *
      simp only [hg]
      simp; omega
    have hst : (store ((⟨g, o, none⟩ : Addr).add i) v).run P w = .ok () (w.setCell ⟨g, o + i, none⟩ v) := by
      rw [add_addr, run_store _ _ _ _ _ (hv v (by simp))]
      simp [hcell, hfr]
    have hg' : (w.setCell ⟨g, o + i, none⟩ v).heap[g]? = some (Obj.cells (c.setIfInBounds (o + i) v) T fz) := by
      simp only [World.setCell, Array.getElem?_modify, if_true, hg]
      simp
    have ho' : ∀ k, k ≠ g → (w.setCell ⟨g, o + i, none⟩ v).heap[k]? = w.heap[k]? := fun k hk => Below.heap_setCell w _ v k hk
    obtain ⟨w', c', h1, h2, h3, h4, h5, h6⟩ := run_storeCells' g o vs (i + 1) (c.setIfInBounds (o + i) v) T fz (w.setCell ⟨g, o + i, none⟩ v) hg' (by unfold Fz at *; simpa using hf) (by simp; omega) (fun x hx => hv x (by simp [hx])) hB
      (hb.setCell (p := ⟨g, o + i, none⟩) hB v)
    refine ⟨w', c', ?_, h2, ⟨by rw [h3.1]; simp, fun k => ?_⟩, fun k hk => (h4 k hk).trans (ho' k hk), h5.trans (World.size_setCell _ _ _), h6⟩
    · simp only [storeCells, Sem.run_bind, hst, Result.andThen_ok]; exact h1
    · rw [h3.2]
      simp only [List.length_cons]
      by_cases hk : k = o + i
      · subst hk
        rw [if_neg (by omega), if_pos ⟨by omega, by omega⟩]
        simp [hlt]
      · by_cases hin : o + (i + 1) ≤ k ∧ k < o + (i + 1) + vs.length
        · rw [if_pos hin, if_pos (by omega)]
          have : k - (o + i) = (k - (o + (i + 1))) + 1 := by omega
          rw [this, List.getElem?_cons_succ]
        · rw [if_neg hin, if_neg (by omega)]
          rw [Array.getElem?_setIfInBounds_ne (by omega)]

theorem out_of_row {i i' es j j' n : Nat} (hne : i' ≠ i) (hj' : j' < es) (hjn : j + n ≤ es) : ¬ (i * es + j ≤ i' * es + j' ∧ i' * es + j' < i * es + j + n) := by
  rintro ⟨h1, h2⟩
  rcases Nat.lt_or_gt_of_ne hne with h | h
  · have : (i' + 1) * es ≤ i * es := Nat.mul_le_mul_right _ h
    rw [Nat.add_mul, Nat.one_mul] at this; omega
  · have : (i + 1) * es ≤ i' * es := Nat.mul_le_mul_right _ h
    rw [Nat.add_mul, Nat.one_mul] at this; omega

/-- A store into a live row. -/
theorem store_row {b i j n : Nat} {o o' : SObj} {row : List AV} {v : Value} {ac : List AV} {t : TypeId} (hc : Core B w0 I0 w I ι σ D) (hf : find σ b = some o) (hrow : o.row? i = some row) (hs : o.sealed = false)
    (hsz : chkSize P t n = true) (hcr : CellsRep w I ι σ D v.cells ac) (hone : ∀ x ∈ v.cells.toList, x.oneCell' = true) (hl : ac.length = n) (hjn : j + n ≤ row.length)
    (he : o'.es = o.es) (hlen : o'.len = o.len) (hm : o'.isMap = false)
    (hrows : ∀ i' r', o'.row? i' = some r' → r' = (if i' = i then setRange row j ac else (o.row? i').getD []) ∧ (i' ≠ i → (o.row? i').isSome = true)) :
    ∃ r w', ι b = some r ∧ (storeVar t ⟨r, i * o.es + j, none⟩ v).run P w = .ok () w' ∧ Core B w0 I0 w' I ι (upS σ b (some o')) D ∧ Later w I ι σ D w' I ι (upS σ b (some o')) D := by
  obtain ⟨r, c, T, fz, k1, k2, k3, k4, k5, k6⟩ := row_cells hc.sims hf hrow
  obtain ⟨s1, s2⟩ := hcr
  have hi : i < o.len := by
    cases o with
    | map ents => simp [SObj.row?] at hrow
    | arr e rs s =>
      simp only [SObj.row?] at hrow
      split at hrow
      · rename_i p hp; exact (List.getElem?_eq_some_iff.1 hp).1
      · cases hrow
    | box e rs s => exact (List.getElem?_eq_some_iff.1 hrow).1
  have hbound : i * o.es + j + v.cells.toList.length ≤ c.size := by
    have h1 : (i + 1) * o.es ≤ o.len * o.es := Nat.mul_le_mul_right _ hi
    rw [Nat.add_mul, Nat.one_mul] at h1
    have : v.cells.toList.length = n := by simp; omega
    omega
  have hgB : B ≤ r := hc.sims.ge b o r hf k1
  obtain ⟨w', c', h1, h2, h3, h4, h5, h6⟩ := run_storeCells' (P := P) r (i * o.es + j) v.cells.toList 0 c T fz w k2 k3 (by simpa using hbound) hone hgB hc.below
  simp only [Nat.add_zero] at h3
  have hvl : v.cells.toList.length = ac.length := by simpa using s1
  obtain ⟨hS, hL⟩ := hc.sims.write (o' := o') (c' := c') hf k1 hs hm he hlen k3 k4 k2 h2 h3.1 h5 h4 (fun i' row' hr' => by
    obtain ⟨e1, e2⟩ := hrows i' row' hr'
    by_cases hii : i' = i
    · subst hii
      rw [if_pos rfl] at e1; subst e1
      refine ⟨by rw [setRange_length (by omega), k5, he], fun j' q hq => ?_⟩
      have hj' : j' < row.length := by have := (List.getElem?_eq_some_iff.1 hq).1; rwa [setRange_length (by omega)] at this
      rw [setRange_get (by omega)] at hq
      rw [he, h3.2]
      by_cases hin : j ≤ j' ∧ j' < j + ac.length
      · rw [if_pos hin] at hq
        rw [if_pos ⟨by omega, by omega⟩]
        have hk' : j' - j < v.cells.size := by have : v.cells.toList.length = v.cells.size := by simp
                                               omega
        have ee : i' * o.es + j' - (i' * o.es + j) = j' - j := by omega
        rw [ee]
        refine ⟨v.cells[j' - j], by simp [hk'], hone _ (by simp), s2 (j' - j) _ q (Array.getElem?_eq_getElem hk') hq⟩
      · rw [if_neg hin] at hq
        rw [if_neg (by omega)]
        exact k6 j' q hq
    · rw [if_neg hii] at e1
      obtain ⟨r0, hr0⟩ := Option.isSome_iff_exists.1 (e2 hii)
      rw [hr0] at e1; simp at e1; subst e1
      obtain ⟨r2, c2, T2, fz2, q1, q2, q3, q4, q5, q6⟩ := row_cells hc.sims hf hr0
      rw [k1] at q1; cases q1; rw [k2] at q2; cases q2
      refine ⟨by rw [q5, he], fun j' q hq => ?_⟩
      have hj' : j' < o.es := by have := (List.getElem?_eq_some_iff.1 hq).1; omega
      rw [he, h3.2, if_neg (by rw [hvl, hl]; exact out_of_row hii hj' (by omega))]
      exact q6 j' q hq)
  refine ⟨r, w', k1, ?_, ⟨hS, h6, hc.hB, hc.ext, hc.old⟩, hL⟩
  unfold storeVar
  simp only [Sem.run_bind, run_sizeOf' hsz, Result.andThen_ok]
  rw [if_neg (by have : v.cells.toList.length = v.cells.size := by simp
                 simp; omega)]
  simpa using h1

variable (hc : Core B w0 I0 w I ι σ D) (hev : ∀ o r, chkA o r = true → RepA w I ι σ D (ρ o) (ev r))
include hc hev

theorem snd_store {t n : Nat} {x y : Operand} {x' y' : RA} (hs : chkSize P t n = true) (hn0 : n ≠ 0) (h1 : chkA x x' = true) (h2 : chkA y y' = true) (h : step σ nm ev (.store n x' y') = some e) :
    Good P B w0 I0 w I ι σ D nm e (do Instr.storeAt t (ρ x) (ρ y); pure .skip) := by
  simp only [step] at h
  have hx := hev _ _ h1
  have fin : ∀ (b i j : Nat) (o o' : SObj) (row ac : List AV), ev x' = .ptr b i j → find σ b = some o → o.row? i = some row → o.sealed = false → CellsRep w I ι σ D (ρ y).cells ac → (∀ z ∈ (ρ y).cells.toList, z.oneCell' = true) → ac.length = n → j + n ≤ row.length →
      o'.es = o.es → o'.len = o.len → o'.isMap = false →
      (∀ i' r', o'.row? i' = some r' → r' = (if i' = i then setRange row j ac else (o.row? i').getD []) ∧ (i' ≠ i → (o.row? i').isSome = true)) → e = { v := .undef, rd := [b], up := [(b, some o')] } →
      Good P B w0 I0 w I ι σ D nm e (do Instr.storeAt t (ρ x) (ρ y); pure .skip) := by
    intro b i j o o' row ac hb ho hrow hse hcr hone hl hjn he hlen hm hrows heq
    obtain ⟨r, w', hr, hrun, hC, hL⟩ := store_row (P := P) (t := t) (o' := o') hc ho hrow hse hs hcr hone hl hjn he hlen hm hrows
    rw [hb] at hx
    subst heq
    generalize ρ x = X at hx
    cases hx with
    | ptr hD hone hx =>
      obtain ⟨r', hr', rfl⟩ := hx o ho
      rw [hr] at hr'; cases hr'
      exact ⟨.skip, undef, w', by simp [Instr.storeAt, Instr.sureAddr, hrun], .inr ⟨rfl, rfl⟩, I, ι, D, hC, hL, .undef _, fun _ h => .inl h⟩
  split at h
  · rename_i b i j hb
    split at h
    · rename_i es rows ho
      split at h
      · rename_i row hrow
        split at h
        · rename_i hle
          cases h
          obtain ⟨hcr, hone⟩ := cells_one (hev _ _ h2) hle.1 hn0 hle.2.2
          refine fin b i j _ (.box es (rows.set i (setRange row j (ev y').cells)) false) row _ hb ho hrow rfl hcr hone hle.1 hle.2.1 rfl (by simp [SObj.len]) rfl (fun i' r' hr' => ?_) rfl
          simp only [SObj.row?, List.getElem?_set] at hr' ⊢
          by_cases hii : i = i'
          · subst hii
            have : i < rows.length := (List.getElem?_eq_some_iff.1 hrow).1
            rw [if_pos rfl, if_pos this] at hr'; cases hr'
            exact ⟨by simp, fun hn => absurd rfl hn⟩
          · rw [if_neg hii] at hr'
            rw [if_neg (fun e => hii e.symm), hr']
            exact ⟨rfl, fun _ => rfl⟩
        · cases h
      · cases h
    · rename_i es rows ho
      split at h
      · rename_i row hrow
        have hrow' : (SObj.arr es rows false).row? i = some (row.map .pv) := by simp [SObj.row?, hrow]
        split at h
        · rename_i ps hps
          split at h
          · rename_i hle
            cases h
            obtain ⟨hcr, hone⟩ := cells_one (hev _ _ h2) hle.1 hn0 hle.2.2
            obtain ⟨p1, p2⟩ := pures_rep (w := w) (I := I) (ι := ι) (σ := σ) (D := D) _ _ hps
            have hcr' : CellsRep w I ι σ D (ρ y).cells (ps.map .pv) := by
              refine ⟨by rw [hcr.1, p1]; simp, fun k z q hz hq => ?_⟩
              simp only [List.getElem?_map, Option.map_eq_some_iff] at hq
              obtain ⟨p, hp, rfl⟩ := hq
              have hk : k < (ev y').cells.length := by rw [p1]; exact (List.getElem?_eq_some_iff.1 hp).1
              exact .pv (p2 k z _ p (List.getElem?_eq_getElem hk) hp (hcr.2 k z _ hz (List.getElem?_eq_getElem hk)))
            refine fin b i j _ (.arr es (rows.set i (row.take j ++ ps ++ row.drop (j + ps.length))) false) (row.map .pv) _ hb ho hrow' rfl hcr' hone (by simp; omega) (by simpa using hle.2.1) rfl (by simp [SObj.len]) rfl (fun i' r' hr' => ?_) rfl
            simp only [SObj.row?, List.getElem?_set] at hr' ⊢
            by_cases hii : i = i'
            · subst hii
              have : i < rows.length := (List.getElem?_eq_some_iff.1 hrow).1
              rw [if_pos rfl, if_pos this] at hr'; cases hr'
              exact ⟨by simp [setRange], fun hn => absurd rfl hn⟩
            · rw [if_neg hii] at hr'
              rw [if_neg (fun e => hii e.symm), hr']
              exact ⟨rfl, fun _ => rfl⟩
          · cases h
        · split at h
          · rename_i hle
            cases h
            obtain ⟨hcr, hone⟩ := cells_one (hev _ _ h2) hle.1 hn0 hle.2.2
            refine fin b i j _ (.box es ((rows.map (·.map AV.pv)).set i (setRange (row.map .pv) j (ev y').cells)) false) (row.map .pv) _ hb ho hrow' rfl hcr hone hle.1 (by simpa using hle.2.1) rfl (by simp [SObj.len]) rfl (fun i' r' hr' => ?_) rfl
            simp only [SObj.row?, List.getElem?_set, List.length_map, List.getElem?_map] at hr' ⊢
            by_cases hii : i = i'
            · subst hii
              have : i < rows.length := (List.getElem?_eq_some_iff.1 hrow).1
              rw [if_pos rfl, if_pos this] at hr'; cases hr'
              exact ⟨by simp, fun hn => absurd rfl hn⟩
            · rw [if_neg hii] at hr'
              rw [if_neg (fun e => hii e.symm)]
              cases hri : rows[i']? with
              | none => rw [hri] at hr'; simp at hr'
              | some p => rw [hri] at hr'; simp at hr'; subst hr'; exact ⟨rfl, fun _ => rfl⟩
          · cases h
      · cases h
    · cases h
  · cases h

end
end Go.Ab
