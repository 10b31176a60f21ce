/- One operation's soundness: literals and new memory. Under: nothing. -/
import Derived.Test.YthpnccneaaeomaaAb12
namespace Go.Ab
open Go.RowKit
section
variable {P : Program} {B : Nat} {w0 : World} {I0 : Imm} {w : World} {I : Imm} {ι : Nat → Option Nat} {σ : Store} {D : Nat → Prop} {nm : Nat} {ρ : Operand → Value} {ev : RA → AV} {e : Eff}

/-- Cells, one by one. -/
def CellsRep (w : World) (I : Imm) (ι : Nat → Option Nat) (σ : Store) (D : Nat → Prop) (c : Array Value) (as : List AV) : Prop :=
  c.size = as.length ∧ ∀ (j : Nat) (x : Value) (q : AV), c[j]? = some x → as[j]? = some q → RepA w I ι σ D x q

theorem setRange_get {row cs : List AV} {j : Nat} (h : j + cs.length ≤ row.length) (k : Nat) : (setRange row j cs)[k]? = if j ≤ k ∧ k < j + cs.length then cs[k - j]? else row[k]? := by
  unfold setRange
  have hl : (row.take j).length = j := by simp; omega
  by_cases h1 : k < j
  · rw [if_neg (by omega), List.append_assoc, List.getElem?_append_left (by omega), List.getElem?_take_of_lt h1]
  · by_cases h2 : k < j + cs.length
    · rw [if_pos ⟨by omega, h2⟩, List.append_assoc, List.getElem?_append_right (by omega), hl, List.getElem?_append_left (by omega)]
    · rw [if_neg (by omega), List.getElem?_append_right (by simp; omega), List.getElem?_drop]
      congr 1; simp; omega

theorem setRange_length {row cs : List AV} {j : Nat} (h : j + cs.length ≤ row.length) : (setRange row j cs).length = row.length := by
  simp [setRange]; omega

/-- Parts go into cells. -/
theorem run_fill {place : Nat → Option (Nat × Nat)} : ∀ (ps : List (Nat × Value)) (qs : List (Nat × Nat × AV)) (c : Array Value) (as : List AV) (r : List AV),
    ps.length = qs.length → (∀ (i k : Nat) (v : Value) (o n : Nat) (a : AV), ps[i]? = some (k, v) → qs[i]? = some (o, n, a) → place k = some (o, n) ∧ n ≠ 0 ∧ RepA w I ι σ D v a) →
    CellsRep w I ι σ D c as → fillA as qs = some r → ∃ c', Instr.fill place c ps = some c' ∧ CellsRep w I ι σ D c' r
  | [], [], c, as, r, _, _, hc, h => by simp only [fillA] at h; cases h; exact ⟨c, rfl, hc⟩
  | (k, v) :: ps, (o, n, a) :: qs, c, as, r, hl, hp, hc, h => by
    simp only [fillA] at h
    split at h
    · rename_i hn
      obtain ⟨hpl, hn0, hrep⟩ := hp 0 k v o n a rfl rfl
      have hu : a.isUndef = false := by
        cases a <;> simp_all [AV.isUndef, AV.cells]
      obtain ⟨s1, s2⟩ := cells_rep hrep hu
      have hsz : v.cells.size = n := by omega
      obtain ⟨f1, f2⟩ := Go.Great.foldl_set o v.cells.toList 0 c
      have hz : v.cells.zipIdx.foldl (fun cs (x : Value × Nat) => cs.setIfInBounds (o + x.2) x.1) c = (v.cells.toList.zipIdx 0).foldl (fun cs (x : Value × Nat) => cs.setIfInBounds (o + x.2) x.1) c := by
        rw [← Array.foldl_toList]; simp
      have hc' : CellsRep w I ι σ D (v.cells.zipIdx.foldl (fun cs (x : Value × Nat) => cs.setIfInBounds (o + x.2) x.1) c) (setRange as o a.cells) := by
        rw [hz]
        refine ⟨by rw [f1, setRange_length (by omega)]; exact hc.1, fun j x q hx hq => ?_⟩
        rw [f2] at hx
        rw [setRange_get (by omega)] at hq
        have hcs := hc.1
        by_cases hj : o ≤ j ∧ j < o + a.cells.length
        · rw [if_pos hj] at hq
          rw [if_pos (by simp only [Nat.add_zero, Array.length_toList]; omega)] at hx
          simp only [Nat.add_zero, Array.getElem?_toList] at hx
          exact s2 _ _ _ hx hq
        · rw [if_neg hj] at hq
          rw [if_neg (by simp only [Nat.add_zero, Array.length_toList]; omega)] at hx
          exact hc.2 _ _ _ hx hq
      obtain ⟨c', h1, h2⟩ := run_fill ps qs _ _ r (by simpa using hl) (fun i k v o n a e1 e2 => hp (i + 1) k v o n a (by simpa using e1) (by simpa using e2)) hc' h
      refine ⟨c', ?_, h2⟩
      simp only [Instr.fill, hpl]
      rw [if_neg (by have := hc.1; simp [hsz]; omega)]
      exact h1
    · cases h
  | [], _ :: _, _, _, _, hl, _, _, _ => by simp at hl
  | _ :: _, [], _, _, _, hl, _, _, _ => by simp at hl

def chkParts (P : Program) (place : Nat → Option (Nat × Nat)) : List (Nat × Operand) → List (Nat × Nat × RA) → Bool
  | [], [] => true
  | (k, x) :: l, (o, n, y) :: m => (match place k with | some (o', n') => o == o' && n == n' | none => false) && n != 0 && chkA x y && chkParts P place l m
  | _, _ => false

theorem chkVs_cells {z : Value} {zs : List AV} (h : chkVs z.cells.toList zs = true) : CellsRep w I ι σ D z.cells zs := by
  obtain ⟨h1, h2⟩ := chkVs_rep (w := w) (I := I) (ι := ι) (σ := σ) (D := D) h
  exact ⟨by simpa using h1, fun j x q hx hq => h2 j x q (by simpa using hx) hq⟩

/-- The places of a type's parts: offset and size. -/
def placesOf (P : Program) (t : TypeId) : Nat → Option (Nat × Nat) := match P.underlying t with
  | some (.struct fields) => fun i => (fields[i]?).bind fun f => (P.info? f.type).map fun j => (f.offset, j.size)
  | some (.array _ el) => fun i => (P.info? el).map fun j => (i * j.size, j.size)
  | _ => fun _ => none

def infosOk (P : Program) (t : TypeId) : Bool := match P.underlying t with
  | some (.struct fields) => fields.all fun f => (P.info? f.type).isSome
  | some (.array _ el) => (P.info? el).isSome
  | _ => false

theorem chkParts_spec (hev : ∀ o r, chkA o r = true → RepA w I ι σ D (ρ o) (ev r)) {place : Nat → Option (Nat × Nat)} : ∀ (l : List (Nat × Operand)) (m : List (Nat × Nat × RA)), chkParts P place l m = true →
    (l.map fun p => (p.1, ρ p.2)).length = (m.map fun (o, n, x) => (o, n, ev x)).length ∧
    ∀ (i k : Nat) (v : Value) (o n : Nat) (a : AV), (l.map fun p => (p.1, ρ p.2))[i]? = some (k, v) → (m.map fun (o, n, x) => (o, n, ev x))[i]? = some (o, n, a) → place k = some (o, n) ∧ n ≠ 0 ∧ RepA w I ι σ D v a
  | [], [], _ => ⟨rfl, fun i k v o n a h => by simp at h⟩
  | (k, x) :: l, (o, n, y) :: m, h => by
    simp only [chkParts, Bool.and_eq_true, bne_iff_ne, ne_eq] at h
    obtain ⟨⟨⟨h1, h2⟩, h3⟩, h4⟩ := h
    obtain ⟨e1, e2⟩ := chkParts_spec hev l m h4
    refine ⟨by simpa using e1, fun i k' v o' n' a g1 g2 => ?_⟩
    cases i with
    | zero =>
      simp only [List.map_cons, List.getElem?_cons_zero, Option.some.injEq, Prod.mk.injEq] at g1 g2
      obtain ⟨rfl, rfl⟩ := g1
      obtain ⟨rfl, rfl, rfl⟩ := g2
      refine ⟨?_, h2, hev _ _ h3⟩
      split at h1
      · rename_i o' n' hpl
        simp only [Bool.and_eq_true, beq_iff_eq] at h1
        rw [hpl, h1.1, h1.2]
      · cases h1
    | succ i =>
      simp only [List.map_cons, List.getElem?_cons_succ] at g1 g2
      exact e2 i k' v o' n' a g1 g2
  | [], _ :: _, h => by simp [chkParts] at h
  | _ :: _, [], h => by simp [chkParts] at h

variable (hc : Core B w0 I0 w I ι σ D) (hev : ∀ o r, chkA o r = true → RepA w I ι σ D (ρ o) (ev r))
include hc hev

theorem snd_build {t : TypeId} {zeros : List AV} {parts : Array (Nat × Operand)} {parts' : List (Nat × Nat × RA)} (hz : chkZero P t zeros = true) (hi : infosOk P t = true)
    (hp : chkParts P (placesOf P t) parts.toList parts' = true) (h : step σ nm ev (.build zeros parts') = some e) :
    Good P B w0 I0 w I ι σ D nm e (do pure (.value (← Instr.build t (parts.map fun (i, x) => (i, ρ x))))) := by
  simp only [step, Eff.of] at h
  split at h
  · rename_i cs hcs
    cases h
    obtain ⟨z, hzr, hzc⟩ := run_zero' hz w
    obtain ⟨e1, e2⟩ := chkParts_spec (P := P) hev _ _ hp
    obtain ⟨c', hf, hrep⟩ := run_fill (place := placesOf P t) _ _ z.cells zeros cs e1 e2 (chkVs_cells hzc) hcs
    have hlist : (parts.map fun (i, x) => (i, ρ x)).toList = parts.toList.map fun p => (p.1, ρ p.2) := by simp
    refine good_same (v := .agg c') hc ?_ rfl (.agg hrep.1 hrep.2)
    unfold Instr.build
    unfold placesOf at hf
    unfold infosOk at hi
    simp only [Sem.run_bind, hzr, Result.andThen_ok]
    cases hu : P.underlying t with
    | none => rw [hu] at hi; cases hi
    | some d =>
      rw [hu] at hi hf
      cases d <;> simp only [Bool.false_eq_true] at hi
      case array len el =>
        simp only [run_under hu, Result.andThen_ok]
        obtain ⟨j, hj⟩ := Option.isSome_iff_exists.1 hi
        have hs : (sizeOf el).run P w = .ok j.size w := by simp [sizeOf, typeInfo, hj]
        simp only [Sem.run_bind, hs, Result.andThen_ok, hlist]
        have : (fun i => some (i * j.size, j.size)) = fun i => (P.info? el).map fun j => (i * j.size, j.size) := by funext i; simp [hj]
        rw [this, hf]
        simp
      case struct fields =>
        simp only [run_under hu, Result.andThen_ok]
        have hm : (fields.mapM fun f => (Prod.mk f.offset <$> sizeOf f.type : Sem (Nat × Nat))).run P w = .ok (fields.map fun f => (f.offset, P.cellsOf f.type)) w := by
          rw [Array.mapM_eq_mapM_toList]
          have : ∀ l : List Field, (∀ f ∈ l, (P.info? f.type).isSome = true) → (l.mapM fun f => (Prod.mk f.offset <$> sizeOf f.type : Sem (Nat × Nat))).run P w = .ok (l.map fun f => (f.offset, P.cellsOf f.type)) w := by
            intro l
            induction l with
            | nil => intro _; simp
            | cons f l ih =>
              intro hl
              obtain ⟨j, hj⟩ := Option.isSome_iff_exists.1 (hl f (by simp))
              have hs : (sizeOf f.type).run P w = .ok j.size w := by simp [sizeOf, typeInfo, hj]
              have ih' := ih (fun g hg => hl g (by simp [hg]))
              rw [List.mapM_cons]
              simp only [Sem.run_bind, Sem.run_map, hs, Result.andThen_ok, ih', Sem.run_pure]
              simp [Program.cellsOf, hj]
          simp only [Sem.run_map]
          rw [this fields.toList (fun f hf => by
            have := (Array.all_eq_true_iff_forall_mem.1 hi) f (by simpa using hf)
            exact this)]
          simp only [Result.andThen_ok]
          congr 1
          apply Array.ext'; simp
        have hm' : (fields.mapM fun f => (do pure (f.offset, ← sizeOf f.type) : Sem (Nat × Nat))).run P w = .ok (fields.map fun f => (f.offset, P.cellsOf f.type)) w := by
          have : (fun f : Field => (do pure (f.offset, ← sizeOf f.type) : Sem (Nat × Nat))) = fun f => Prod.mk f.offset <$> sizeOf f.type := by funext f; simp
          rw [this]; exact hm
        simp only [Sem.run_bind, hm', Result.andThen_ok, hlist]
        have : (fun (i : Nat) => (fields.map fun f => (f.offset, P.cellsOf f.type))[i]?) = fun (i : Nat) => (fields[i]?).bind fun (f : Field) => (P.info? f.type).map fun j => (f.offset, j.size) := by
          funext i
          rw [Array.getElem?_map]
          cases hfi : fields[i]? with
          | none => rfl
          | some f =>
            obtain ⟨j, hj⟩ := Option.isSome_iff_exists.1 ((Array.all_eq_true_iff_forall_mem.1 hi) f (Array.mem_of_getElem? hfi))
            simp [Program.cellsOf, hj]
        simp only at hf
        rw [← this] at hf
        rw [hf]
        simp
  · cases h

end
end Go.Ab
