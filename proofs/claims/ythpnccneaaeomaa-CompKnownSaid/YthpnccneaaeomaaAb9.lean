/- One operation's soundness: parts of values, loads. Under: nothing. -/
import Derived.Test.YthpnccneaaeomaaAb8
namespace Go.Ab
open Go.RowKit
section
variable {P : Program} {B : Nat} {w0 : World} {I0 : Imm} {w : World} {I : Imm} {ι : Nat → Option Nat} {σ : Store} {D : Nat → Prop} {nm : Nat} {ρ : Operand → Value} {ev : RA → AV} {e : Eff}

theorem agg_inv {v : Value} {a : AV} (h : RepA w I ι σ D v a) (ha : a.isAggV = true) : ∃ cs, v = .agg cs ∧ cs.size = a.cells.length ∧ ∀ (j : Nat) (x : Value) (q : AV), cs[j]? = some x → a.cells[j]? = some q → RepA w I ι σ D x q := by
  have hu : a.isUndef = false := by cases a <;> simp_all [AV.isAggV, AV.isUndef]
  obtain ⟨h1, h2⟩ := cells_rep h hu
  have : ∃ cs, v = .agg cs := by
    cases h with
    | pv h => cases h <;> simp_all [AV.isAggV]
    | agg hl h => exact ⟨_, rfl⟩
    | _ => simp [AV.isAggV] at ha
  obtain ⟨cs, rfl⟩ := this
  exact ⟨cs, rfl, h1, h2⟩

/-- A value of n cells, out of their values. -/
theorem mk_rep {agg : Bool} {cells : List AV} {av : AV} {vs : List Value} (h : mkAgg agg cells = some av) (hl : vs.length = cells.length)
    (hr : ∀ (j : Nat) (x : Value) (q : AV), vs[j]? = some x → cells[j]? = some q → RepA w I ι σ D x q) :
    (agg = true ∧ RepA w I ι σ D (.agg vs.toArray) av) ∨ (agg = false ∧ ∃ x, vs = [x] ∧ RepA w I ι σ D x av) := by
  cases agg with
  | true =>
    simp only [mkAgg] at h; cases h
    exact .inl ⟨rfl, .agg (by simpa using hl) fun j x q hx hq => hr j x q (by simpa using hx) hq⟩
  | false =>
    match cells, h with
    | [a], h =>
      simp only [mkAgg] at h; cases h
      match vs, hl with
      | [x], _ => exact .inr ⟨rfl, x, rfl, hr 0 x av rfl rfl⟩

theorem run_part {t n : Nat} {agg : Bool} {cells : List AV} {av : AV} {cs : Array Value} {off : Nat} (hs : chkSize P t n = true) (hg : chkAgg P t agg = true)
    (h : mkAgg agg cells = some av) (hn : cells.length = n) (hlen : off + n ≤ cs.size)
    (hr : ∀ (j : Nat) (x : Value) (q : AV), cs[off + j]? = some x → cells[j]? = some q → RepA w I ι σ D x q) (w₁ : World) :
    ∃ v, (part t cs off).run P w₁ = .ok v w₁ ∧ RepA w I ι σ D v av := by
  have hvs : ((cs.toList.drop off).take n).length = cells.length := by simp; omega
  have hrr : ∀ (j : Nat) (x : Value) (q : AV), ((cs.toList.drop off).take n)[j]? = some x → cells[j]? = some q → RepA w I ι σ D x q := by
    intro j x q hx hq
    have hj : j < n := by have := (List.getElem?_eq_some_iff.1 hq).1; omega
    rw [List.getElem?_take_of_lt hj, List.getElem?_drop] at hx
    exact hr j x q (by simpa using hx) hq
  rcases mk_rep h hvs hrr with ⟨rfl, h1⟩ | ⟨rfl, x, hx, h1⟩
  · refine ⟨_, ?_, h1⟩
    unfold part
    simp only [Sem.run_bind, run_isAgg' hg, Result.andThen_ok, if_true, run_sizeOf' hs, Sem.run_pure]
    congr 2
    apply Array.ext'
    simp [Array.toList_extract, List.extract]
  · refine ⟨x, ?_, h1⟩
    have hn1 : n = 1 := by have := congrArg List.length hx; rw [hvs, hn] at this; simpa using this
    subst hn1
    have : cs[off]? = some x := by
      have h0 : ((cs.toList.drop off).take 1)[0]? = some x := by rw [hx]; rfl
      rw [List.getElem?_take_of_lt (by omega), List.getElem?_drop] at h0
      simpa using h0
    unfold part
    simp [run_isAgg' hg, this]

theorem add_addr (r o k : Nat) : (⟨r, o, none⟩ : Addr).add k = ⟨r, o + k, none⟩ := by
  unfold Addr.add; by_cases h : k = 0 <;> simp [h]

theorem add_addr' {a : Addr} (h : a.spot = none) (k : Nat) : a.add k = ⟨a.block, a.off + k, none⟩ := by
  obtain ⟨b, o, s⟩ := a; cases h; exact add_addr b o k

/-- A variable's load. -/
theorem run_loadVar {t n : Nat} {agg : Bool} {cells : List AV} {av : AV} {r o : Nat} (hs : chkSize P t n = true) (hg : chkAgg P t agg = true)
    (h : mkAgg agg cells = some av) (hn : cells.length = n)
    (hr : ∀ (j : Nat) (q : AV), cells[j]? = some q → ∃ x, w.cell? ⟨r, o + j, none⟩ = some x ∧ RepA w I ι σ D x q) :
    ∃ v, (loadVar t ⟨r, o, none⟩).run P w = .ok v w ∧ RepA w I ι σ D v av := by
  let f : Nat → Value := fun k => (w.cell? ⟨r, o + k, none⟩).getD undef
  have hf : ∀ j, j < n → w.cell? ⟨r, o + j, none⟩ = some (f j) := by
    intro j hj
    obtain ⟨x, hx, _⟩ := hr j cells[j] (List.getElem?_eq_getElem (by omega))
    simp [f, hx]
  have hvs : ((List.range n).map f).length = cells.length := by simp [hn]
  have hrr : ∀ (j : Nat) (x : Value) (q : AV), ((List.range n).map f)[j]? = some x → cells[j]? = some q → RepA w I ι σ D x q := by
    intro j x q hx hq
    obtain ⟨x', hx', hrep⟩ := hr j q hq
    have hj : j < n := by have := (List.getElem?_eq_some_iff.1 hq).1; omega
    simp [hj] at hx
    subst hx
    simpa [f, hx'] using hrep
  rcases mk_rep h hvs hrr with ⟨rfl, h1⟩ | ⟨rfl, x, hx, h1⟩
  · refine ⟨_, ?_, h1⟩
    unfold loadVar
    simp only [Sem.run_bind, run_isAgg' hg, Result.andThen_ok, if_true, run_sizeOf' hs]
    rw [run_loadCells (w := w) (⟨r, o, none⟩ : Addr) n f (fun j hj => by rw [add_addr]; exact hf j hj)]
    simp
  · refine ⟨x, ?_, h1⟩
    have hn1 : n = 1 := by have := congrArg List.length hx; rw [hvs, hn] at this; simpa using this
    subst hn1
    have hx0 : f 0 = x := by simpa using hx
    have := hf 0 (by omega)
    rw [hx0] at this
    simp only [Nat.add_zero] at this
    unfold loadVar
    simp [run_isAgg' hg, this]

/-- The rows of a live block. -/
theorem row_cells {b i : Nat} {o : SObj} {row : List AV} (hs : SimS B w I ι σ D) (hf : find σ b = some o) (hrow : o.row? i = some row) :
    ∃ (r : Nat) (c : Array Value) (T : TypeId) (fz : Nat × Nat), ι b = some r ∧ w.heap[r]? = some (Obj.cells c T fz) ∧ Fz c fz ∧ o.len * o.es ≤ c.size ∧ row.length = o.es ∧
      ∀ j v, row[j]? = some v → ∃ x, c[i * o.es + j]? = some x ∧ RepC w I ι σ D x v := by
  have hob := hs.obj b o hf
  have hlen : o.len ≠ 0 := by
    intro h0
    cases o with
    | map ents => simp [SObj.row?] at hrow
    | arr e rs s =>
      simp only [SObj.len] at h0
      have : rs = [] := List.eq_nil_of_length_eq_zero h0
      subst this; simp [SObj.row?] at hrow
    | box e rs s =>
      simp only [SObj.len] at h0
      have : rs = [] := List.eq_nil_of_length_eq_zero h0
      subst this; simp [SObj.row?] at hrow
  have hR : RowsRep w I ι σ D b o := by
    cases o with
    | map ents => simp [SObj.row?] at hrow
    | arr e rs s => exact hob
    | box e rs s => exact hob
  rcases hR with ⟨_, h0⟩ | ⟨r, c, T, fz, h1, h2, h3, h4, h5⟩
  · exact absurd h0 hlen
  · exact ⟨r, c, T, fz, h1, h2, h3, h4, (h5 i row hrow).1, (h5 i row hrow).2⟩

theorem cell_of {r o : Nat} {c : Array Value} {T : TypeId} {fz : Nat × Nat} (h : w.heap[r]? = some (Obj.cells c T fz)) : w.cell? ⟨r, o, none⟩ = c[o]? := by
  simp [World.cell?, h]

variable (hc : Core B w0 I0 w I ι σ D) (hev : ∀ o r, chkA o r = true → RepA w I ι σ D (ρ o) (ev r))
include hc hev

theorem snd_load {x : Operand} {y : RA} {t n : Nat} {agg : Bool} (hs : chkSize P t n = true) (hg : chkAgg P t agg = true) (h1 : chkA x y = true)
    (h : step σ nm ev (.load agg n y) = some e) : Good P B w0 I0 w I ι σ D nm e (do pure (.value (← Instr.loadAt t (ρ x)))) := by
  simp only [step] at h
  have hx := hev _ _ h1
  split at h
  · rename_i b i j hb
    split at h
    · rename_i o ho
      split at h
      · rename_i row hrow
        split at h
        · rename_i hjn
          split at h
          · rename_i v hv
            cases h
            rw [hb] at hx
            generalize ρ x = X at hx
            cases hx with
            | ptr hD hone hx =>
              obtain ⟨r, hr, rfl⟩ := hx o ho
              obtain ⟨r', c, T, fz, k1, k2, k3, k4, k5, k6⟩ := row_cells hc.sims ho hrow
              rw [hr] at k1; cases k1
              obtain ⟨v', hv', hrep⟩ := run_loadVar (w := w) (o := i * o.es + j) (r := r) hs hg hv (by simp; omega) (fun k q hq => by
                have hk : k < n := by have := (List.getElem?_eq_some_iff.1 hq).1; simp at this; omega
                rw [List.getElem?_take_of_lt hk, List.getElem?_drop] at hq
                obtain ⟨x', hx', hrep⟩ := k6 (j + k) q hq
                exact ⟨x', by rw [cell_of k2, Nat.add_assoc]; exact hx', hrep.2⟩)
              exact good_same hc (by simp [Instr.loadAt, Instr.sureAddr, hv']) rfl hrep
          · cases h
        · cases h
      · cases h
    · cases h
  · rename_i cs hb
    split at h
    · rename_i hn
      split at h
      · rename_i v hv
        cases h
        rw [hb] at hx
        generalize ρ x = X at hx
        cases hx with
        | pv hx =>
          cases hx with
          | ref f ha hp hr =>
            rename_i a
            obtain ⟨ab, ao, as⟩ := a
            simp only at ha; subst ha
            obtain ⟨v', hv', hrep⟩ := run_loadVar (w := w) (I := I) (ι := ι) (σ := σ) (D := D) (o := ao) (r := ab) hs hg hv (by simp; omega) (fun k q hq => by
              have hk : k < n := by have := (List.getElem?_eq_some_iff.1 hq).1; simp at this; omega
              simp only [List.getElem?_map, Option.map_eq_some_iff] at hq
              obtain ⟨q', hq', rfl⟩ := hq
              rw [List.getElem?_take_of_lt hk] at hq'
              exact ⟨f k, (hp k (by omega)).1, .pv (hr k q' hq')⟩)
            exact good_same hc (by simp [Instr.loadAt, Instr.sureAddr, hv']) rfl hrep
      · cases h
    · cases h
  · cases h

theorem snd_field {x : Operand} {y : RA} {t f n off : Nat} {agg : Bool} {fields : Array Field} {fd : Field} (ht : P.underlying t = some (.struct fields)) (hf : fields[f]? = some fd) (hoff : fd.offset = off)
    (hs : chkSize P fd.type n = true) (hg : chkAgg P fd.type agg = true) (h1 : chkA x y = true)
    (h : step σ nm ev (.field agg off n y) = some e) : Good P B w0 I0 w I ι σ D nm e (do pure (.value (← Instr.field t (ρ x) f))) := by
  simp only [step, Eff.of] at h
  have hx := hev _ _ h1
  split at h
  · rename_i hle
    split at h
    · rename_i v hv
      cases h
      obtain ⟨cs, hcs, hsz, hrep⟩ := agg_inv hx hle.2
      obtain ⟨v', hv', hr'⟩ := run_part (w := w) (cs := cs) (off := off) hs hg hv (by simp; omega) (by omega) (fun j x' q hx' hq => by
        have hk : j < n := by have := (List.getElem?_eq_some_iff.1 hq).1; simp at this; omega
        rw [List.getElem?_take_of_lt hk, List.getElem?_drop] at hq
        exact hrep _ _ _ hx' hq) w
      subst hoff
      exact good_same hc (by rw [hcs]; simp [Instr.field, run_under ht, hf, asAgg, hv']) rfl hr'
    · cases h
  · cases h

omit hc in
theorem idx_inv {x : Operand} {y : RA} {k : Int} (h1 : chkA x y = true) (h : idxOf (ev y) = some k) : ∃ kk, ρ x = .int kk k := by
  cases hy : ev y with
  | pv p =>
    cases p <;> rw [hy] at h <;> simp only [idxOf] at h <;> cases h
    rename_i kk
    exact ⟨kk, rep_int hev h1 hy⟩
  | _ => rw [hy] at h; simp [idxOf] at h

theorem snd_index {x ix : Operand} {y yi : RA} {t len es el : Nat} {agg : Bool} (ht : P.underlying t = some (.array len el)) (hs : chkSize P el es = true) (hg : chkAgg P el agg = true) (h1 : chkA x y = true) (h2 : chkA ix yi = true)
    (h : step σ nm ev (.index agg len es y yi) = some e) : Good P B w0 I0 w I ι σ D nm e (do pure (.value (← Instr.index t (ρ x) (ρ ix)))) := by
  simp only [step, Eff.of] at h
  have hx := hev _ _ h1
  split at h
  · rename_i k hk
    obtain ⟨kk, hkk⟩ := idx_inv hev h2 hk
    split at h
    · rename_i hle
      split at h
      · rename_i v hv
        cases h
        obtain ⟨cs, hcs, hsz, hrep⟩ := agg_inv hx hle.2.2.2
        have hbound : k.toNat * es + es ≤ len * es := by
          have : k.toNat + 1 ≤ len := by omega
          calc k.toNat * es + es = (k.toNat + 1) * es := by rw [Nat.add_mul, Nat.one_mul]
            _ ≤ len * es := Nat.mul_le_mul_right _ this
        obtain ⟨v', hv', hr'⟩ := run_part (w := w) (cs := cs) (off := k.toNat * es) hs hg hv (by simp; omega) (by omega) (fun j x' q hx' hq => by
          have hk : j < es := by have := (List.getElem?_eq_some_iff.1 hq).1; simp at this; omega
          rw [List.getElem?_take_of_lt hk, List.getElem?_drop] at hq
          exact hrep _ _ _ hx' hq) w
        refine good_same hc ?_ rfl hr'
        rw [hcs, hkk]
        simp [Instr.index, asIntOf, run_under ht, hle.1, hle.2.1, run_sizeOf' hs, hv']
      · cases h
    · cases h
  · cases h

end
end Go.Ab
