/- One operation's soundness: append to nothing and to fixed slices; maps; least and greatest; bytes. Under: nothing. -/
import Derived.Test.YthpnccneaaeomaaAb18
namespace Go.Ab
open Go.RowKit
section
variable {P : Program} {B : Nat} {w0 : World} {I0 : Imm} {w w' : World} {I : Imm} {ι : Nat → Option Nat} {σ : Store} {D : Nat → Prop} {nm : Nat} {ρ : Operand → Value} {ev : RA → AV} {e : Eff}

theorem shows_nil (p : Option Addr) (cap es : Nat) : Shows w I ι σ D es (.slice p 0 cap) [] := ⟨p, cap, rfl, Nat.zero_le _, fun i row hr => by simp at hr, fun hn => absurd rfl hn⟩

/-- Append to an empty slice without room. -/
theorem app_emp {sT xT el es bytes ty e0 : Nat} {xs : List (List AV)} {vs vx : Value} {rd : List Nat} (hc : Core B w0 I0 w I ι σ D) (hn : ¬ D nm) (ht : AppT P sT xT el es bytes)
    (hvs : RepA w I ι σ D vs (.emp e0)) (hx : Shows w I ι σ D es vx xs) (hbig : xs.length * bytes ≤ 2 ^ 40) (he : e = { v := .own nm 0 xs.length, rd := rd, up := [(nm, some (mkObj es xs))] }) :
    Good P B w0 I0 w I ι σ D nm e (do pure (.value (← Builtin.append_ #[sT, xT] ty #[vs, vx]))) := by
  subst he
  cases hvs with
  | emp =>
  have hwx : ∀ (i : Nat) (row : List AV), xs[i]? = some row → row.length = es := by obtain ⟨_, _, _, _, h, _⟩ := hx; exact h
  by_cases hroom : 0 + xs.length ≤ 0
  · have hx0 : xs = [] := List.eq_nil_of_length_eq_zero (by omega)
    subst hx0
    obtain ⟨cs, hfc, hcs, hg⟩ := run_firstCells (P := P) hx
    have hcs0 : cs = #[] := Array.eq_empty_of_size_eq_zero (by simpa using hcs)
    subst hcs0
    have hrun := run_append_in (ty := ty) ht (p := none) (n := 0) (cap := 0) hx hroom hfc (w' := w) (by simp)
    obtain ⟨hS, hL⟩ := hc.sims.empty (nm := nm) (o := mkObj es []) hn rfl rfl
    refine ⟨_, .slice none (0 + 0) 0, w, by simpa using congrArg (fun r => r.andThen fun a w' => Result.ok (Next.value a) w') hrun, .inl rfl, I, setι ι nm none, addD D nm, ⟨hS, hc.below, hc.hB, hc.ext, hc.old⟩, hL, ?_, ?_⟩
    · refine .own (.inr rfl) rfl fun o₁ ho₁ => ?_
      refine ⟨none, 0, by simp, by simp, ⟨Nat.le_refl _, ?_⟩, .inl ⟨rfl, rfl⟩⟩
      simp only [upAll] at ho₁
      rw [find_upS, if_pos rfl] at ho₁; cases ho₁
      simp [mkObj, rowsPure?, SObj.len]
    · rintro b' (h | rfl)
      · exact .inl h
      · exact .inr ⟨Nat.le_refl _, by simp [stride]⟩
  · obtain ⟨cs, hfc, hcs, hg⟩ := run_firstCells (P := P) (w := { w with drawn := w.drawn + 1 }) (hx.heap heap_drew)
    have hfo : (Builtin.firstCells es 0 (.slice none 0 0)).run P { w with drawn := w.drawn + 1 } = .ok #[] { w with drawn := w.drawn + 1 } := by simp [Builtin.firstCells]
    obtain ⟨newCap, rest, w', hnc, hrest, hrun, hheap, hbel⟩ := run_append_grow (ty := ty) ht (n := 0) (cap := 0) hx hroom (by simpa using hbig) hfc hfo
    have hrows : RowsIn w I ι σ D (#[] ++ cs ++ rest) es (fun i => xs[i]?) := by
      have := rowsIn_append (w := { w with drawn := w.drawn + 1 }) (I := I) (ι := ι) (σ := σ) (D := D) (xs := []) (os := #[]) (rest := rest) (es := es) (by simp) hcs (fun i row hr => by simp at hr) hwx (fun i j row q hr => by simp at hr) hg
      simpa using this.mono (later_heap rfl : Later { w with drawn := w.drawn + 1 } I ι σ D w I ι σ D)
    obtain ⟨m1, m2, m3, m4, m5⟩ := mkObj_spec hrows
    have hBw : B ≤ w.heap.size := Nat.le_trans hc.hB hc.below.size
    simp only [Nat.zero_add] at hrun hnc hrest
    refine good_new (w' := w') (v := .slice (some ⟨w.heap.size, 0, none⟩) xs.length newCap) (c := #[] ++ cs ++ rest) (T := el) (fz := (0, 0)) hc hn (by simpa using congrArg (fun r => r.andThen fun a w' => Result.ok (Next.value a) w') hrun) hheap (hbel B w0 hBw hc.below) (.inr (Nat.le_refl _)) m3 ?_ (by rw [m1]; exact m5) rfl ?_
    · rw [m1, m2]; simp only [Array.size_append, hcs, List.size_toArray, List.length_nil]; omega
    · refine rep_newown (c := #[] ++ cs ++ rest) (T := el) (fz := (0, 0)) (.inr rfl) (by simp [setι]) (by rw [hheap]; simp) (by rw [m2]) hnc ?_
      rw [m1]
      simp only [Array.size_append, hcs, hrest, List.size_toArray, List.length_nil]
      rw [Nat.sub_mul]
      have : xs.length * es ≤ newCap * es := Nat.mul_le_mul_right _ hnc
      omega

/-- What is fixed, and a fresh block besides. -/
def freshI (I : Imm) (r : Nat) : Imm := fun r' k => I r' k ∨ r' = r

theorem Core.fresh {ob : Obj} (hc : Core B w0 I0 w I ι σ D) (hw : w'.heap = w.heap.push ob) (hb : Below B w0 w') :
    Core B w0 I0 w' (freshI I w.heap.size) ι σ D ∧ Later w I ι σ D w' (freshI I w.heap.size) ι σ D := by
  have hBw : B ≤ w.heap.size := Nat.le_trans hc.hB hc.below.size
  have hold : ∀ r, r < w.heap.size → w'.heap[r]? = w.heap[r]? := fun r hr => by rw [hw, Array.getElem?_push, if_neg (by omega)]
  have hL : Later w I ι σ D w' (freshI I w.heap.size) ι σ D := by
    refine ⟨⟨fun r' k v hi hx => ⟨(cell?_of_heap (hold r' (hc.sims.bnd r' k hi))).trans hx, .inl hi⟩, fun _ h => h, fun b' o₁ hD h => ⟨o₁, h, rfl, rfl, rfl⟩, fun r₁ c₁ T₁ fz₁ h₁ => ⟨c₁, fz₁, ?_, rfl⟩, fun _ _ => rfl⟩, fun r₁ _ _ h₁ => by rw [hold r₁ (Array.getElem?_eq_some_iff.1 h₁).1]; exact h₁⟩
    rw [hold r₁ (Array.getElem?_eq_some_iff.1 h₁).1]; exact h₁
  refine ⟨⟨⟨fun r k hi => ?_, hc.sims.dom, hc.sims.inj, hc.sims.ge, fun b o r k ho hr hi => ?_, fun b o ho => ?_⟩, hb, hc.hB, fun r k h => .inl (hc.ext r k h), fun r k hr hi => ?_⟩, hL⟩
  · rw [hw, Array.size_push]
    rcases hi with hi | rfl
    · have := hc.sims.bnd r k hi; omega
    · omega
  · rcases hi with hi | rfl
    · exact hc.sims.sep b o r k ho hr hi
    · have := hc.sims.lt ho hr; omega
  · exact (hc.sims.obj b o ho).mono hL rfl fun r hr => hold r (hc.sims.lt ho hr)
  · rcases hi with hi | rfl
    · exact hc.old r k hr hi
    · omega

/-- Append to a slice whose room is full: the outcome is fixed. -/
theorem app_fsl {sT xT el es bytes ty : Nat} {rows xs : List (List PV)} {vs vx : Value} {rd : List Nat} (hc : Core B w0 I0 w I ι σ D) (ht : AppT P sT xT el es bytes)
    (hvs : RepA w I ι σ D vs (.fsl es rows)) (hx : Shows w I ι σ D es vx (xs.map (·.map .pv))) (hbig : (rows.length + xs.length) * bytes ≤ 2 ^ 40) (he : e = { v := .pv (.sl es (rows ++ xs)), rd := rd, up := [] }) :
    Good P B w0 I0 w I ι σ D nm e (do pure (.value (← Builtin.append_ #[sT, xT] ty #[vs, vx]))) := by
  subst he
  cases hvs with
  | fsl hvs =>
  rename_i p n
  have hshow := shows_pure (ι := ι) (σ := σ) (D := D) hvs
  have hnl : rows.length = n := by cases hvs with | sl f hl _ _ _ _ => exact hl
  subst hnl
  have hwx : ∀ (i : Nat) (row : List AV), (xs.map (·.map AV.pv))[i]? = some row → row.length = es := by obtain ⟨_, _, _, _, h, _⟩ := hx; exact h
  have hwo : ∀ (i : Nat) (row : List AV), (rows.map (·.map AV.pv))[i]? = some row → row.length = es := by obtain ⟨_, _, _, _, h, _⟩ := hshow; exact h
  by_cases hroom : rows.length + (xs.map (·.map AV.pv)).length ≤ rows.length
  · have hx0 : xs = [] := List.eq_nil_of_length_eq_zero (by rw [List.length_map] at hroom; omega)
    subst hx0
    obtain ⟨cs, hfc, hcs, hg⟩ := run_firstCells (P := P) hx
    have hcs0 : cs = #[] := Array.eq_empty_of_size_eq_zero (by simpa using hcs)
    subst hcs0
    have hrun := run_append_in (ty := ty) ht (p := p) (n := rows.length) (cap := rows.length) hx hroom hfc (w' := w) (by cases p <;> simp [storeCells])
    exact good_same (v := .slice p rows.length rows.length) hc (by simpa using congrArg (fun r => r.andThen fun a w' => Result.ok (Next.value a) w') hrun) rfl (by simpa using RepA.pv hvs)
  · obtain ⟨cs, hfc, hcs, hg⟩ := run_firstCells (P := P) (w := { w with drawn := w.drawn + 1 }) (hx.heap heap_drew)
    obtain ⟨os, hfo, hos, hgo⟩ := run_firstCells (P := P) (w := { w with drawn := w.drawn + 1 }) (hshow.heap heap_drew)
    simp only [List.length_map] at hfo hos hcs hroom
    obtain ⟨newCap, rest, w', hnc, hrest, hrun, hheap, hbel⟩ := run_append_grow (ty := ty) ht (n := rows.length) (cap := rows.length) hx (by simpa using hroom) (by simpa using hbig) hfc hfo
    have hBw : B ≤ w.heap.size := Nat.le_trans hc.hB hc.below.size
    obtain ⟨hC, hL⟩ := hc.fresh hheap (hbel B w0 hBw hc.below)
    have hrows : RowsIn w' (freshI I w.heap.size) ι σ D (os ++ cs ++ rest) es (fun i => (rows.map (·.map AV.pv) ++ xs.map (·.map AV.pv))[i]?) := by
      have := rowsIn_append (w := { w with drawn := w.drawn + 1 }) (I := I) (ι := ι) (σ := σ) (D := D) (rest := rest) (es := es) (by simpa using hos) (by simpa using hcs) hwo hwx hgo hg
      exact (this.mono (later_heap rfl : Later { w with drawn := w.drawn + 1 } I ι σ D w I ι σ D)).mono hL
    have hlen : (xs.map (·.map AV.pv)).length = xs.length := by simp
    rw [hlen] at hrun hnc hrest
    have hnew : w'.heap[w.heap.size]? = some (Obj.cells (os ++ cs ++ rest) el (0, 0)) := by rw [hheap]; simp
    refine ⟨_, .slice (some ⟨w.heap.size, 0, none⟩) (rows.length + xs.length) newCap, w', by simpa using congrArg (fun r => r.andThen fun a w' => Result.ok (Next.value a) w') hrun, .inl rfl, freshI I w.heap.size, ι, D, hC, hL, ?_, fun _ h => .inl h⟩
    have hrow : ∀ (i : Nat) (row : List PV), (rows ++ xs)[i]? = some row → (rows.map (·.map AV.pv) ++ xs.map (·.map AV.pv))[i]? = some (row.map AV.pv) := by
      intro i row hr
      rw [← List.map_append, List.getElem?_map, hr]; rfl
    refine .pv (.sl (fun i j => ((os ++ cs ++ rest)[i * es + j]?).getD undef) (by simp) hnc (fun i row hr => ?_) (fun _ => ⟨_, rfl, rfl, fun i j hi hj => ?_⟩) (fun i j row q hr hq => ?_))
    · have := (hrows i _ (hrow i row hr)).1
      simpa using this
    · have hri := List.getElem?_eq_getElem hi
      obtain ⟨h1, h2⟩ := hrows i _ (hrow i _ hri)
      have hj' : j < ((rows ++ xs)[i].map AV.pv).length := by rw [h1]; exact hj
      obtain ⟨x, hx', hrep⟩ := h2 j _ (List.getElem?_eq_getElem hj')
      simp only [Nat.zero_add]
      rw [cell_of hnew, hx']
      exact ⟨rfl, .inr rfl, hrep.1⟩
    · obtain ⟨h1, h2⟩ := hrows i _ (hrow i row hr)
      obtain ⟨x, hx', hrep⟩ := h2 j (.pv q) (by simp [hq])
      rw [hx']
      cases hrep.2 with
      | pv h => exact h

variable (hc : Core B w0 I0 w I ι σ D) (hn : ¬ D nm) (hev : ∀ o r, chkA o r = true → RepA w I ι σ D (ρ o) (ev r))
include hc hn hev

theorem snd_append {sT xT el es bytes ty : Nat} {x y : Operand} {x' y' : RA} (ht : AppT P sT xT el es bytes) (h1 : chkA x x' = true) (h2 : chkA y y' = true) (h : step σ nm ev (.append es bytes x' y') = some e) :
    Good P B w0 I0 w I ι σ D nm e (do pure (.value (← Builtin.append_ #[sT, xT] ty #[ρ x, ρ y]))) := by
  simp only [step] at h
  have hx := (hev _ _ h1).e
  have hy := hev _ _ h2
  split at h
  · rename_i e0 hb
    rw [hb] at hx
    split at h
    · rename_i xs rd hr
      split at h
      · rename_i hle
        exact app_emp hc hn ht hx (rowsOf_spec hc.sims hr hy) hle (Option.some.inj h).symm
      · cases h
    · cases h
  · rename_i e0 rows hb
    rw [hb] at hx
    split at h
    · rename_i xs rd hr
      split at h
      · rename_i hle
        obtain ⟨hle, rfl⟩ := hle
        exact app_fsl hc ht hx (prowsOf_spec hc.sims hr hy) hle (Option.some.inj h).symm
      · cases h
    · cases h
  · rename_i b n hb
    rw [hb] at hx
    split at h
    · rename_i es' rows sl hf
      split at h
      · rename_i hle
        obtain ⟨hln, rfl⟩ := hle
        split at h
        · rename_i xs rd hr
          split at h
          · rename_i hbig
            refine app_own (o := .arr es' rows sl) (o' := .arr es' (rows ++ xs) sl) (olds := rows.map (·.map .pv)) (xs := xs.map (·.map .pv)) (rd := b :: rd) hc hn ht hf rfl rfl rfl rfl rfl hln (by simp [SObj.len, hln]) (by simpa using hln) (fun i hi => ?_) (fun i => ?_) hx (prowsOf_spec hc.sims hr hy) (by simpa using hbig) (by have := (Option.some.inj h).symm; simpa using this)
            · simp only [SObj.row?, List.getElem?_map]; cases rows[i]? <;> rfl
            · rw [← List.map_append]; simp only [SObj.row?, List.getElem?_map]; cases (rows ++ xs)[i]? <;> rfl
          · cases h
        · split at h
          · rename_i xs rd hr
            split at h
            · rename_i hbig
              refine app_own (o := .arr es' rows sl) (o' := .box es' (rows.map (·.map .pv) ++ xs) sl) (olds := rows.map (·.map .pv)) (xs := xs) (rd := b :: rd) hc hn ht hf rfl rfl rfl rfl rfl hln (by simp [SObj.len, hln]) (by simpa using hln) (fun i hi => ?_) (fun i => rfl) hx (rowsOf_spec hc.sims hr hy) (by simpa using hbig) (by have := (Option.some.inj h).symm; simpa using this)
              simp only [SObj.row?, List.getElem?_map]; cases rows[i]? <;> rfl
            · cases h
          · cases h
      · split at h
        · cases h
        · split at h
          · rename_i xs rd hr
            split at h
            · rename_i hle
              obtain ⟨h1, h2, rfl⟩ := hle
              exact app_in hc ht hf hx (prowsOf_spec hc.sims hr hy) h1 h2 (Option.some.inj h).symm
            · cases h
          · cases h
    · rename_i es' rows sl hf
      split at h
      · rename_i hle
        obtain ⟨hln, rfl⟩ := hle
        split at h
        · rename_i xs rd hr
          split at h
          · rename_i hbig
            exact app_own (o := .box es' rows sl) (o' := .box es' (rows ++ xs) sl) (olds := rows) (xs := xs) (rd := b :: rd) hc hn ht hf rfl rfl rfl rfl rfl hln (by simp [SObj.len, hln]) hln (fun i hi => rfl) (fun i => rfl) hx (rowsOf_spec hc.sims hr hy) (by simpa using hbig) (Option.some.inj h).symm
          · cases h
        · cases h
      · cases h
    · cases h
  · cases h

end
end Go.Ab
