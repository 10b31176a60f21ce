/- One operation's soundness: new blocks. Under: nothing. -/
import Derived.Test.YthpnccneaaeomaaAb13
namespace Go.Ab
open Go.RowKit
section
variable {P : Program} {B : Nat} {w0 : World} {I0 : Imm} {w w' : World} {I : Imm} {ι : Nat → Option Nat} {σ : Store} {D : Nat → Prop} {nm : Nat} {ρ : Operand → Value} {ev : RA → AV} {e : Eff}

mutual
theorem pure_rep : ∀ (a : AV) (v : Value) (p : PV), a.pure? = some p → RepA w I ι σ D v a → RepP w I v p
  | .pv p, v, q, h, hr => by simp only [AV.pure?] at h; cases h; cases hr with | pv h => exact h
  | .emp es, v, q, h, hr => by
    simp only [AV.pure?] at h; cases h
    cases hr with
    | emp => exact .emp _
  | .fsl es rows, v, q, h, hr => by simp only [AV.pure?] at h; cases h; cases hr with | fsl h => exact h
  | .agg cs, v, q, h, hr => by
    simp only [AV.pure?] at h
    split at h
    · rename_i ps hps
      cases h
      cases hr with
      | agg hl hh =>
        obtain ⟨e1, e2⟩ := pures_rep cs ps hps
        refine .agg (hl.trans e1) fun j x q hx hq => ?_
        have hj : j < cs.length := by rw [e1]; exact (List.getElem?_eq_some_iff.1 hq).1
        exact e2 j x cs[j] q (List.getElem?_eq_getElem hj) hq (hh j x cs[j] hx (List.getElem?_eq_getElem hj))
    · cases h
  | .tup cs, v, q, h, hr => by
    simp only [AV.pure?] at h
    split at h
    · rename_i ps hps
      cases h
      cases hr with
      | tup hl hh =>
        obtain ⟨e1, e2⟩ := pures_rep cs ps hps
        refine .tup (hl.trans e1) fun j x q hx hq => ?_
        have hj : j < cs.length := by rw [e1]; exact (List.getElem?_eq_some_iff.1 hq).1
        exact e2 j x cs[j] q (List.getElem?_eq_getElem hj) hq (hh j x cs[j] hx (List.getElem?_eq_getElem hj))
    · cases h
  | .func fn xs ys, v, q, h, hr => by
    simp only [AV.pure?] at h
    split at h
    · rename_i ps qs hps hqs
      cases h
      cases hr with
      | func hl hl' hh hh' =>
        obtain ⟨e1, e2⟩ := pures_rep xs ps hps
        obtain ⟨f1, f2⟩ := pures_rep ys qs hqs
        refine .func (hl.trans e1) (hl'.trans f1) (fun j x q hx hq => ?_) (fun j x q hx hq => ?_)
        · have hj : j < xs.length := by rw [e1]; exact (List.getElem?_eq_some_iff.1 hq).1
          exact e2 j x xs[j] q (List.getElem?_eq_getElem hj) hq (hh j x xs[j] hx (List.getElem?_eq_getElem hj))
        · have hj : j < ys.length := by rw [f1]; exact (List.getElem?_eq_some_iff.1 hq).1
          exact f2 j x ys[j] q (List.getElem?_eq_getElem hj) hq (hh' j x ys[j] hx (List.getElem?_eq_getElem hj))
    · cases h
  | .ptr b i j, v, q, h, hr => by simp [AV.pure?] at h
  | .own b i n, v, q, h, hr => by simp [AV.pure?] at h
  | .mref b, v, q, h, hr => by simp [AV.pure?] at h
  | .undef, v, q, h, hr => by simp [AV.pure?] at h
theorem pures_rep : ∀ (l : List AV) (ps : List PV), pures? l = some ps → l.length = ps.length ∧ ∀ (j : Nat) (x : Value) (a : AV) (p : PV), l[j]? = some a → ps[j]? = some p → RepA w I ι σ D x a → RepP w I x p
  | [], ps, h => by simp only [pures?] at h; cases h; exact ⟨rfl, fun j x a p ha => by simp at ha⟩
  | a :: l, ps, h => by
    simp only [pures?] at h
    split at h
    · rename_i p hp
      split at h
      · rename_i qs hqs
        cases h
        obtain ⟨e1, e2⟩ := pures_rep l qs hqs
        refine ⟨by simp [e1], fun j x a' p' ha hp' hr => ?_⟩
        cases j with
        | zero => simp at ha hp'; subst ha; subst hp'; exact pure_rep a x p hp hr
        | succ j => simp at ha hp'; exact e2 j x a' p' ha hp' hr
      · cases h
    · cases h
end

/-- Rows as they lie in cells. -/
def RowsIn (w : World) (I : Imm) (ι : Nat → Option Nat) (σ : Store) (D : Nat → Prop) (c : Array Value) (es : Nat) (get : Nat → Option (List AV)) : Prop :=
  ∀ i row, get i = some row → row.length = es ∧ ∀ j v, row[j]? = some v → ∃ x, c[i * es + j]? = some x ∧ RepC w I ι σ D x v

theorem rowsPure_spec : ∀ (rows : List (List AV)) (ps : List (List PV)), rowsPure? rows = some ps → rows.length = ps.length ∧ ∀ (i : Nat) (p : List PV), ps[i]? = some p → ∃ r, rows[i]? = some r ∧ pures? r = some p
  | [], ps, h => by simp only [rowsPure?] at h; cases h; exact ⟨rfl, fun i p hp => by simp at hp⟩
  | r :: rows, ps, h => by
    simp only [rowsPure?] at h
    split at h
    · rename_i p hp
      split at h
      · rename_i qs hqs
        cases h
        obtain ⟨e1, e2⟩ := rowsPure_spec rows qs hqs
        refine ⟨by simp [e1], fun i p' hp' => ?_⟩
        cases i with
        | zero => simp at hp'; subst hp'; exact ⟨r, rfl, hp⟩
        | succ i => simp at hp'; simpa using e2 i p' hp'
      · cases h
    · cases h

theorem mkObj_spec {c : Array Value} {es : Nat} {rows : List (List AV)} (h : RowsIn w I ι σ D c es (fun i => rows[i]?)) :
    (mkObj es rows).es = es ∧ (mkObj es rows).len = rows.length ∧ (mkObj es rows).isMap = false ∧ (mkObj es rows).sealed = false ∧ RowsIn w I ι σ D c es (mkObj es rows).row? := by
  unfold mkObj
  split
  · rename_i ps hps
    obtain ⟨e1, e2⟩ := rowsPure_spec rows ps hps
    refine ⟨rfl, by simp [SObj.len, e1], rfl, rfl, fun i row hr => ?_⟩
    simp only [SObj.row?] at hr
    split at hr
    · rename_i p hp
      cases hr
      obtain ⟨r, hr, hpr⟩ := e2 i p hp
      obtain ⟨f1, f2⟩ := pures_rep (w := w) (I := I) (ι := ι) (σ := σ) (D := D) r p hpr
      obtain ⟨g1, g2⟩ := h i r hr
      refine ⟨by simp [← f1, g1], fun j v hv => ?_⟩
      simp only [List.getElem?_map, Option.map_eq_some_iff] at hv
      obtain ⟨q, hq, rfl⟩ := hv
      have hj : j < r.length := by rw [f1]; exact (List.getElem?_eq_some_iff.1 hq).1
      obtain ⟨x, hx, hrep⟩ := g2 j r[j] (List.getElem?_eq_getElem hj)
      exact ⟨x, hx, hrep.1, .pv (f2 j x r[j] q (List.getElem?_eq_getElem hj) hq hrep.2)⟩
    · cases hr
  · exact ⟨rfl, rfl, rfl, rfl, h⟩

theorem good_new {s : Sem Next} {v : Value} {c : Array Value} {T : TypeId} {fz : Nat × Nat} {o : SObj} (hc : Core B w0 I0 w I ι σ D) (hn : ¬ D nm)
    (hr : s.run P w = .ok (.value v) w') (hw : w'.heap = w.heap.push (Obj.cells c T fz)) (hb : Below B w0 w') (hfz : Fz c fz) (hm : o.isMap = false) (hlen : o.len * o.es ≤ c.size)
    (hrow : RowsIn w I ι σ D c o.es o.row?) (hu : e.up = [(nm, some o)])
    (hv : RepA w' I (setι ι nm (some w.heap.size)) (upS σ nm (some o)) (addD D nm) v e.v) : Good P B w0 I0 w I ι σ D nm e s := by
  have hBw : B ≤ w.heap.size := Nat.le_trans hc.hB hc.below.size
  have hs := hc.sims.new hBw hn hw hfz hm hlen hrow
  refine ⟨_, v, w', hr, .inl rfl, I, setι ι nm (some w.heap.size), addD D nm, ?_, ?_, ?_, ?_⟩
  · rw [hu]; exact ⟨hs, hb, hc.hB, hc.ext, hc.old⟩
  · rw [hu]; exact later_new hn hc.sims.bnd hw
  · rw [hu]; exact hv
  · rintro b (h | rfl)
    · exact .inl h
    · exact .inr ⟨Nat.le_refl _, by simp [stride]⟩

theorem rep_newptr {o : SObj} {r : Nat} (hD : D nm) (hι : ι nm = some r) : RepA w I ι (upS σ nm (some o)) D (.pointer (some ⟨r, 0, none⟩)) (.ptr nm 0 0) := by
  refine .ptr hD rfl fun o' ho' => ?_
  exact ⟨r, hι, by simp⟩

theorem rep_newown {o : SObj} {r n cap : Nat} {c : Array Value} {T : TypeId} {fz : Nat × Nat} (hD : D nm) (hι : ι nm = some r) (hw : w.heap[r]? = some (Obj.cells c T fz)) (hn : n = o.len) (hcap : n ≤ cap) (hsz : cap * o.es ≤ c.size) :
    RepA w I ι (upS σ nm (some o)) D (.slice (some ⟨r, 0, none⟩) n cap) (.own nm 0 n) := by
  refine .own hD rfl fun o' ho' => ?_
  rw [find_upS, if_pos rfl] at ho'; cases ho'
  exact ⟨_, cap, rfl, by omega, ⟨hcap, by omega⟩, .inr ⟨r, c, T, fz, hι, by simp, hw, by simpa using hsz⟩⟩

theorem below_alloc (hc : Core B w0 I0 w I ι σ D) (ob : Obj) : Below B w0 (w.alloc ob) := hc.below.alloc (Nat.le_trans hc.hB hc.below.size) ob

theorem allCells_spec {as : List AV} (h : allCells as = true) : ∀ a ∈ as, a.isCell = true := by
  induction as with
  | nil => simp
  | cons a as ih =>
    simp only [allCells, Bool.and_eq_true] at h
    intro x hx
    rcases List.mem_cons.1 hx with rfl | hx
    · exact h.1
    · exact ih h.2 x hx

theorem cells_one {v : Value} {a : AV} {n : Nat} (hv : RepA w I ι σ D v a) (hl : a.cells.length = n) (hn0 : n ≠ 0) (hall : allCells a.cells = true) : CellsRep w I ι σ D v.cells a.cells ∧ ∀ x ∈ v.cells.toList, x.oneCell' = true := by
  have hu : a.isUndef = false := by cases a <;> simp_all [AV.isUndef, AV.cells]
  obtain ⟨s1, s2⟩ := cells_rep hv hu
  refine ⟨⟨s1, s2⟩, fun x hx => ?_⟩
  obtain ⟨k, hk⟩ := List.getElem?_of_mem hx
  have hk' : k < a.cells.length := by have := (List.getElem?_eq_some_iff.1 hk).1; simp at this; omega
  exact (s2 k x a.cells[k] (by simpa using hk) (List.getElem?_eq_getElem hk')).oneCell (allCells_spec hall _ (List.getElem_mem hk'))

theorem chkV0_one {v : Value} {a : AV} (h : chkV0 v a = true) : v.oneCell' = true := by
  unfold chkV0 at h
  split at h <;> first | rfl | cases h

theorem chkVs_one : ∀ {l : List Value} {m : List AV}, chkVs l m = true → ∀ x ∈ l, x.oneCell' = true
  | [], _, _ => by simp
  | v :: l, a :: m, h => by
    simp only [chkVs, Bool.and_eq_true] at h
    intro x hx
    rcases List.mem_cons.1 hx with rfl | hx
    · exact chkV0_one h.1
    · exact chkVs_one h.2 x hx
  | _ :: _, [], h => by simp [chkVs] at h

theorem oneRow {c : Array Value} {as : List AV} (h : CellsRep w I ι σ D c as) (h1 : ∀ x ∈ c.toList, x.oneCell' = true) : RowsIn w I ι σ D c as.length (fun i => [as][i]?) := by
  intro i row hr
  cases i with
  | zero =>
    simp at hr; subst hr
    refine ⟨rfl, fun j v hv => ?_⟩
    have hj : j < c.size := by rw [h.1]; exact (List.getElem?_eq_some_iff.1 hv).1
    exact ⟨c[j], by simp [hj], h1 _ (by simp), h.2 j _ v (Array.getElem?_eq_getElem hj) hv⟩
  | succ i => simp at hr

variable (hc : Core B w0 I0 w I ι σ D) (hn : ¬ D nm) (hev : ∀ o r, chkA o r = true → RepA w I ι σ D (ρ o) (ev r))
include hc hn

theorem snd_alloc {t : TypeId} {zero : List AV} (hz : chkZero P t zero = true) (h : step σ nm ev (.alloc zero) = some e) :
    Good P B w0 I0 w I ι σ D nm e (do pure (.value (← Instr.alloc t true (.tuple #[])))) := by
  simp only [step] at h; cases h
  obtain ⟨z, hzr, hzc⟩ := run_zero' hz w
  have hcr := chkVs_cells (w := w) (I := I) (ι := ι) (σ := σ) (D := D) hzc
  refine good_new (w' := w.alloc (.cells z.cells t)) (v := .pointer (some ⟨w.heap.size, 0, none⟩)) (c := z.cells) (T := t) (fz := (0, 0)) hc hn ?_ rfl (below_alloc hc _) (.inr (Nat.le_refl _)) rfl ?_ ?_ rfl ?_
  · simp [Instr.alloc, hzr, newVar, newRow]
  · simp [SObj.len, SObj.es, hcr.1]
  · exact oneRow hcr (chkVs_one hzc)
  · exact rep_newptr (.inr rfl) (by simp [setι])

include hev

theorem snd_box {t n : Nat} {x : Operand} {y : RA} (hn0 : n ≠ 0) (hx : chkA x y = true) (h : step σ nm ev (.box n y) = some e) :
    Good P B w0 I0 w I ι σ D nm e (do pure (.value (← Instr.box t (ρ x)))) := by
  simp only [step] at h
  split at h
  · rename_i hlen
    cases h
    obtain ⟨hlen, hall⟩ := hlen
    obtain ⟨hcr, hone⟩ := cells_one (hev _ _ hx) hlen hn0 hall
    refine good_new (w' := w.alloc (.cells (ρ x).cells t)) (v := .pointer (some ⟨w.heap.size, 0, none⟩)) (c := (ρ x).cells) (T := t) (fz := (0, 0)) hc hn ?_ rfl (below_alloc hc _) (.inr (Nat.le_refl _)) rfl ?_ ?_ rfl ?_
    · simp [Instr.box, newVar, newRow]
    · simp [SObj.len, SObj.es, hcr.1, hlen]
    · have := oneRow hcr hone
      rw [hlen] at this
      exact this
    · exact rep_newptr (.inr rfl) (by simp [setι])
  · cases h

end
end Go.Ab
