/- The invariant between the abstract state and the model's world, and how it is kept. Under: nothing. -/
import Derived.Test.YthpnccneaaeomaaAb3
import Derived.Laws.Cells
import Derived.Laws.Entries
import Derived.Lib.FrozenHead
namespace Go.Ab
open Go.RowKit

def Fz (c : Array Value) (fz : Nat × Nat) : Prop := c.size ≤ fz.1 ∨ fz.2 ≤ fz.1

/-- One cell of a block. -/
def RepC (w : World) (I : Imm) (ι : Nat → Option Nat) (σ : Store) (D : Nat → Prop) (x : Value) (v : AV) : Prop := x.oneCell' = true ∧ RepA w I ι σ D x v

theorem RepC.mono {w w' : World} {I I' : Imm} {ι ι' : Nat → Option Nat} {σ σ' : Store} {D D' : Nat → Prop} (hk : Later w I ι σ D w' I' ι' σ' D') {v : Value} {p : AV} (h : RepC w I ι σ D v p) : RepC w' I' ι' σ' D' v p := ⟨h.1, h.2.mono hk⟩

/-- A block's rows, as they lie in the world. -/
def RowsRep (w : World) (I : Imm) (ι : Nat → Option Nat) (σ : Store) (D : Nat → Prop) (b : Nat) (o : SObj) : Prop :=
  (ι b = none ∧ o.len = 0) ∨ ∃ (r : Nat) (c : Array Value) (T : TypeId) (fz : Nat × Nat), ι b = some r ∧ w.heap[r]? = some (Obj.cells c T fz) ∧ Fz c fz ∧ o.len * o.es ≤ c.size ∧
    ∀ i row, o.row? i = some row → row.length = o.es ∧ ∀ j v, row[j]? = some v → ∃ x, c[i * o.es + j]? = some x ∧ RepC w I ι σ D x v

def ObjRep (w : World) (I : Imm) (ι : Nat → Option Nat) (σ : Store) (D : Nat → Prop) (b : Nat) (o : SObj) : Prop :=
  match o with
  | .map ents => ∃ (r : Nat) (es : Array MapEntry) (clock : Nat), ι b = some r ∧ w.heap[r]? = some (Obj.map es clock) ∧
      (∀ e ∈ es.toList, ∃ k v, e.key = .string ⟨k.toArray⟩ ∧ lookupE k ents = some v ∧ RepA w I ι σ D e.val v) ∧ ∀ k v, lookupE k ents = some v → ∃ e ∈ es.toList, e.key = .string ⟨k.toArray⟩
  | o => RowsRep w I ι σ D b o

theorem RepA.e {w : World} {I : Imm} {ι : Nat → Option Nat} {σ : Store} {D : Nat → Prop} {v : Value} {a : AV} (h : RepA w I ι σ D v a) : RepA w I ι σ D v a.e := by
  cases a with
  | pv p =>
    cases p with
    | emp es => cases h with | pv h => cases h with | emp => exact .emp es
    | _ => exact h
  | _ => exact h


structure SimS (B : Nat) (w : World) (I : Imm) (ι : Nat → Option Nat) (σ : Store) (D : Nat → Prop) : Prop where
  bnd : ∀ r k, I r k → r < w.heap.size
  dom : ∀ b o, find σ b = some o → D b
  inj : ∀ b b' o o' r, find σ b = some o → find σ b' = some o' → ι b = some r → ι b' = some r → b = b'
  ge : ∀ b o r, find σ b = some o → ι b = some r → B ≤ r
  sep : ∀ b o r k, find σ b = some o → ι b = some r → I r k → o.sealed = true ∧ k < o.len * o.es
  obj : ∀ b o, find σ b = some o → ObjRep w I ι σ D b o

theorem RowsRep.mono {w w' : World} {I I' : Imm} {ι ι' : Nat → Option Nat} {σ σ' : Store} {D D' : Nat → Prop} (hk : Later w I ι σ D w' I' ι' σ' D')
    {b : Nat} {o : SObj} (hι : ι' b = ι b) (hw : ∀ r, ι b = some r → w'.heap[r]? = w.heap[r]?) (h : RowsRep w I ι σ D b o) : RowsRep w' I' ι' σ' D' b o := by
  rcases h with ⟨h1, h2⟩ | ⟨r, c, T, fz, h1, h2, h3, h4, h5⟩
  · exact .inl ⟨hι.trans h1, h2⟩
  · refine .inr ⟨r, c, T, fz, hι.trans h1, (hw r h1).trans h2, h3, h4, fun i row hr => ⟨(h5 i row hr).1, fun j v hv => ?_⟩⟩
    obtain ⟨x, hx, hrep⟩ := (h5 i row hr).2 j v hv
    exact ⟨x, hx, hrep.mono hk⟩

theorem ObjRep.mono {w w' : World} {I I' : Imm} {ι ι' : Nat → Option Nat} {σ σ' : Store} {D D' : Nat → Prop} (hk : Later w I ι σ D w' I' ι' σ' D')
    {b : Nat} {o : SObj} (hι : ι' b = ι b) (hw : ∀ r, ι b = some r → w'.heap[r]? = w.heap[r]?) (h : ObjRep w I ι σ D b o) : ObjRep w' I' ι' σ' D' b o := by
  cases o with
  | arr e r s => exact RowsRep.mono hk hι hw h
  | box e r s => exact RowsRep.mono hk hι hw h
  | map ents =>
    obtain ⟨r, es, clock, h1, h2, h3, h4⟩ := h
    exact ⟨r, es, clock, hι.trans h1, (hw r h1).trans h2, fun e he => let ⟨k, v, a, b, c⟩ := h3 e he; ⟨k, v, a, b, c.mono hk⟩, h4⟩

/-- One-cell values are kept so. -/
theorem RepP.oneCell {w : World} {I : Imm} {v : Value} {p : PV} (h : RepP w I v p) (hc : (AV.pv p).isCell = true) : v.oneCell' = true := by
  cases h <;> simp_all [AV.isCell, Value.oneCell']

theorem RepA.oneCell {w : World} {I : Imm} {ι : Nat → Option Nat} {σ : Store} {D : Nat → Prop} {v : Value} {p : AV} (h : RepA w I ι σ D v p) (hc : p.isCell = true) : v.oneCell' = true := by
  cases h with
  | pv h => exact h.oneCell hc
  | emp es => rfl
  | fsl h => rfl
  | ptr hD h1 h => exact h1
  | own hD h1 h => exact h1
  | mref hD h1 h => exact h1
  | agg _ _ => simp [AV.isCell] at hc
  | tup _ _ => simp [AV.isCell] at hc
  | func _ _ _ _ => rfl
  | anyB b => rfl
  | yld hD h => obtain ⟨l, _, rfl⟩ := h; rfl
  | mark v k => simp [AV.isCell] at hc
  | undef v => simp [AV.isCell] at hc

def AV.isUndef : AV → Bool
  | .undef => true
  | .mark _ => true
  | _ => false

theorem Value.cells_one {v : Value} (h : v.oneCell' = true) : v.cells = #[v] := by cases v <;> simp_all [Value.cells, Value.oneCell']

theorem cells_rep {w : World} {I : Imm} {ι : Nat → Option Nat} {σ : Store} {D : Nat → Prop} {v : Value} {p : AV} (h : RepA w I ι σ D v p) (hu : p.isUndef = false) :
    v.cells.size = p.cells.length ∧ ∀ (j : Nat) (x : Value) (q : AV), v.cells[j]? = some x → p.cells[j]? = some q → RepA w I ι σ D x q := by
  have one : ∀ {v : Value} {p : AV}, RepA w I ι σ D v p → v.cells = #[v] → p.cells = [p] → v.cells.size = p.cells.length ∧ ∀ (j : Nat) (x : Value) (q : AV), v.cells[j]? = some x → p.cells[j]? = some q → RepA w I ι σ D x q := by
    intro v p h h1 h2
    rw [h1, h2]
    refine ⟨rfl, fun j x q hx hq => ?_⟩
    cases j with
    | zero => simp at hx hq; rw [← hx, ← hq]; exact h
    | succ j => simp at hq
  cases h with
  | pv h =>
    cases h with
    | agg hl h =>
      refine ⟨by simpa [Value.cells, AV.cells] using hl, fun j x q hx hq => ?_⟩
      simp only [AV.cells, List.getElem?_map, Option.map_eq_some_iff] at hq
      obtain ⟨q', hq', rfl⟩ := hq
      exact .pv (h j x q' hx hq')
    | bool b => exact one (.pv (.bool b)) rfl rfl
    | int k n => exact one (.pv (.int k n)) rfl rfl
    | str s => exact one (.pv (.str s)) rfl rfl
    | sl f a b c d e => exact one (.pv (.sl f a b c d e)) rfl rfl
    | ref f a b c => exact one (.pv (.ref f a b c)) rfl rfl
    | tup a b => exact one (.pv (.tup a b)) rfl rfl
    | func a b c d => exact one (.pv (.func a b c d)) rfl rfl
    | nilFunc => exact one (.pv .nilFunc) rfl rfl
    | emp es => exact one (.pv (.emp es)) rfl rfl
  | emp es => exact one (.emp es) rfl rfl
  | fsl h => exact one (.fsl h) rfl rfl
  | ptr hD h1 h => exact one (.ptr hD h1 h) (Value.cells_one h1) rfl
  | own hD h1 h => exact one (.own hD h1 h) (Value.cells_one h1) rfl
  | mref hD h1 h => exact one (.mref hD h1 h) (Value.cells_one h1) rfl
  | agg hl h => exact ⟨by simpa [Value.cells, AV.cells] using hl, fun j x q hx hq => h j x q hx hq⟩
  | tup hl h => exact one (.tup hl h) rfl rfl
  | func hl hl' h h' => exact one (.func hl hl' h h') rfl rfl
  | anyB b => exact one (.anyB b) rfl rfl
  | yld hD h => obtain ⟨l, h1, rfl⟩ := h; exact one (.yld hD ⟨l, h1, rfl⟩) rfl rfl
  | mark v k => simp [AV.isUndef] at hu
  | undef v => simp [AV.isUndef] at hu

/-! ### The steps of the invariant -/
section
variable {B : Nat} {w w' : World} {I : Imm} {ι : Nat → Option Nat} {σ : Store} {D : Nat → Prop}

theorem cell?_of_heap {r o : Nat} (h : w'.heap[r]? = w.heap[r]?) : w'.cell? ⟨r, o, none⟩ = w.cell? ⟨r, o, none⟩ := by
  simp only [World.cell?, h]

/-- Nothing but the count of draws. -/
theorem later_heap (h : w'.heap = w.heap) : Later w I ι σ D w' I ι σ D :=
  ⟨⟨fun _ _ _ hi hx => ⟨(cell?_of_heap (by rw [h])).trans hx, hi⟩, fun _ h => h, fun _ o' _ ho => ⟨o', ho, rfl, rfl, rfl⟩, fun _ c _ fz hr => ⟨c, fz, by rw [h]; exact hr, rfl⟩, fun _ _ => rfl⟩, fun _ _ _ hr => by rw [h]; exact hr⟩

theorem SimS.heap (hs : SimS B w I ι σ D) (h : w'.heap = w.heap) : SimS B w' I ι σ D :=
  ⟨fun r k hi => by rw [h]; exact hs.bnd r k hi, hs.dom, hs.inj, hs.ge, hs.sep, fun b o ho => (hs.obj b o ho).mono (later_heap h) rfl fun r _ => by rw [h]⟩

/-- A name dies. -/
theorem later_kill (b : Nat) : Later w I ι σ D w I ι (upS σ b none) D :=
  ⟨⟨fun _ _ _ hi hx => ⟨hx, hi⟩, fun _ h => h, fun b' o' _ ho => by
    rw [find_upS] at ho
    by_cases e : b' = b
    · rw [if_pos e] at ho; cases ho
    · rw [if_neg e] at ho; exact ⟨o', ho, rfl, rfl, rfl⟩, fun _ c _ fz hr => ⟨c, fz, hr, rfl⟩, fun _ _ => rfl⟩, fun _ _ _ h => h⟩

theorem SimS.kill (hs : SimS B w I ι σ D) (b : Nat) : SimS B w I ι (upS σ b none) D := by
  have key : ∀ b' o', find (upS σ b none) b' = some o' → find σ b' = some o' := by
    intro b' o' ho
    rw [find_upS] at ho
    by_cases e : b' = b
    · rw [if_pos e] at ho; cases ho
    · rwa [if_neg e] at ho
  exact ⟨hs.bnd, fun b' o' h => hs.dom b' o' (key _ _ h), fun b₁ b₂ o₁ o₂ r h₁ h₂ => hs.inj b₁ b₂ o₁ o₂ r (key _ _ h₁) (key _ _ h₂),
    fun b' o' r h => hs.ge b' o' r (key _ _ h), fun b' o' r k h => hs.sep b' o' r k (key _ _ h),
    fun b' o' h => (hs.obj b' o' (key _ _ h)).mono (later_kill b) rfl fun _ _ => rfl⟩

def setι (ι : Nat → Option Nat) (nm : Nat) (x : Option Nat) : Nat → Option Nat := fun b => if b = nm then x else ι b
def addD (D : Nat → Prop) (nm : Nat) : Nat → Prop := fun b => D b ∨ b = nm

theorem later_new {nm : Nat} {x : Option Nat} {o : SObj} {ob : Obj} (hn : ¬ D nm) (hb : ∀ r k, I r k → r < w.heap.size) (hw : w'.heap = w.heap.push ob) :
    Later w I ι σ D w' I (setι ι nm x) (upS σ nm (some o)) (addD D nm) where
  keeps := fun r k v hi hx => by
    refine ⟨(cell?_of_heap ?_).trans hx, hi⟩
    rw [hw, Array.getElem?_push, if_neg (by have := hb r k hi; omega)]
  names := fun _ h => .inl h
  live := fun b o' hD ho => by
    have : b ≠ nm := fun e => hn (e ▸ hD)
    rw [find_upS, if_neg this] at ho
    exact ⟨o', ho, rfl, rfl, by simp [setι, this]⟩
  rows := fun r c T fz hr => by
    refine ⟨c, fz, ?_, rfl⟩
    have hlt : r < w.heap.size := (Array.getElem?_eq_some_iff.1 hr).1
    rw [hw, Array.getElem?_push, if_neg (by omega)]; exact hr
  same := fun b hD => by
    have : b ≠ nm := fun e => hn (e ▸ hD)
    simp [setι, this]
  loops := fun r _ _ hr => by
    have hlt : r < w.heap.size := (Array.getElem?_eq_some_iff.1 hr).1
    rw [hw, Array.getElem?_push, if_neg (by omega)]; exact hr

/-- A new block of cells. -/
theorem SimS.new {nm : Nat} {o : SObj} {c : Array Value} {T : TypeId} {fz : Nat × Nat} (hs : SimS B w I ι σ D) (hB : B ≤ w.heap.size) (hn : ¬ D nm)
    (hw : w'.heap = w.heap.push (Obj.cells c T fz)) (hfz : Fz c fz) (hm : o.isMap = false) (hlen : o.len * o.es ≤ c.size)
    (hrow : ∀ i row, o.row? i = some row → row.length = o.es ∧ ∀ j v, row[j]? = some v → ∃ x, c[i * o.es + j]? = some x ∧ RepC w I ι σ D x v) :
    SimS B w' I (setι ι nm (some w.heap.size)) (upS σ nm (some o)) (addD D nm) := by
  have hL : Later w I ι σ D w' I (setι ι nm (some w.heap.size)) (upS σ nm (some o)) (addD D nm) := later_new hn hs.bnd hw
  have hnew : w'.heap[w.heap.size]? = some (Obj.cells c T fz) := by rw [hw]; simp
  have hold : ∀ r, r < w.heap.size → w'.heap[r]? = w.heap[r]? := fun r hr => by rw [hw, Array.getElem?_push, if_neg (by omega)]
  have hlt : ∀ b o r, find σ b = some o → ι b = some r → r < w.heap.size := by
    intro b o r hf hr
    have := hs.obj b o hf
    cases o with
    | map ents => obtain ⟨r', es, cl, h1, h2, _⟩ := this; rw [hr] at h1; cases h1; exact (Array.getElem?_eq_some_iff.1 h2).1
    | arr e r' s =>
      rcases this with ⟨h1, _⟩ | ⟨r', c, T, fz, h1, h2, _⟩
      · rw [hr] at h1; cases h1
      · rw [hr] at h1; cases h1; exact (Array.getElem?_eq_some_iff.1 h2).1
    | box e r' s =>
      rcases this with ⟨h1, _⟩ | ⟨r', c, T, fz, h1, h2, _⟩
      · rw [hr] at h1; cases h1
      · rw [hr] at h1; cases h1; exact (Array.getElem?_eq_some_iff.1 h2).1
  refine ⟨fun r k hi => ?_, fun b o' ho => ?_, fun b b' o₁ o₂ r h₁ h₂ e₁ e₂ => ?_, fun b o' r ho e => ?_, fun b o' r k ho e hi => ?_, fun b o' ho => ?_⟩
  · rw [hw, Array.size_push]; have := hs.bnd r k hi; omega
  · rw [find_upS] at ho
    by_cases e : b = nm
    · exact .inr e
    · rw [if_neg e] at ho; exact .inl (hs.dom b o' ho)
  · rw [find_upS] at h₁ h₂
    simp only [setι] at e₁ e₂
    by_cases e : b = nm <;> by_cases e' : b' = nm
    · rw [e, e']
    · rw [if_pos e] at e₁; rw [if_neg e'] at e₂ h₂; have := hlt b' o₂ r h₂ e₂; cases e₁; omega
    · rw [if_neg e] at e₁ h₁; rw [if_pos e'] at e₂; have := hlt b o₁ r h₁ e₁; cases e₂; omega
    · rw [if_neg e] at e₁ h₁; rw [if_neg e'] at e₂ h₂; exact hs.inj b b' o₁ o₂ r h₁ h₂ e₁ e₂
  · rw [find_upS] at ho
    simp only [setι] at e
    by_cases e' : b = nm
    · rw [if_pos e'] at e; cases e; exact hB
    · rw [if_neg e'] at e ho; exact hs.ge b o' r ho e
  · rw [find_upS] at ho
    simp only [setι] at e
    by_cases e' : b = nm
    · rw [if_pos e'] at e; cases e; have := hs.bnd _ k hi; omega
    · rw [if_neg e'] at e ho; exact hs.sep b o' r k ho e hi
  · rw [find_upS] at ho
    by_cases e' : b = nm
    · rw [if_pos e'] at ho; cases ho; subst e'
      have hrows : RowsRep w' I (setι ι b (some w.heap.size)) (upS σ b (some o)) (addD D b) b o :=
        .inr ⟨w.heap.size, c, T, fz, by simp [setι], hnew, hfz, hlen, fun i row hr => ⟨(hrow i row hr).1, fun j v hv => by
          obtain ⟨x, hx, hrep⟩ := (hrow i row hr).2 j v hv
          exact ⟨x, hx, hrep.mono hL⟩⟩⟩
      cases o with
      | map ents => simp [SObj.isMap] at hm
      | arr e r' s => exact hrows
      | box e r' s => exact hrows
    · rw [if_neg e'] at ho
      exact (hs.obj b o' ho).mono hL (by simp [setι, e']) fun r hr => hold r (hlt b o' r ho hr)

/-- A live name's block lies in the heap. -/
theorem SimS.lt (hs : SimS B w I ι σ D) {b : Nat} {o : SObj} {r : Nat} (hf : find σ b = some o) (hr : ι b = some r) : r < w.heap.size := by
  have := hs.obj b o hf
  cases o with
  | map ents => obtain ⟨r', es, cl, h1, h2, _⟩ := this; rw [hr] at h1; cases h1; exact (Array.getElem?_eq_some_iff.1 h2).1
  | arr e r' s =>
    rcases this with ⟨h1, _⟩ | ⟨r', c, T, fz, h1, h2, _⟩
    · rw [hr] at h1; cases h1
    · rw [hr] at h1; cases h1; exact (Array.getElem?_eq_some_iff.1 h2).1
  | box e r' s =>
    rcases this with ⟨h1, _⟩ | ⟨r', c, T, fz, h1, h2, _⟩
    · rw [hr] at h1; cases h1
    · rw [hr] at h1; cases h1; exact (Array.getElem?_eq_some_iff.1 h2).1

/-- One row of cells has changed, of a block on which nothing fixed lies. -/
theorem later_write {b : Nat} {o o' : SObj} {r : Nat} {c c' : Array Value} {T : TypeId} {fz : Nat × Nat} (hf : find σ b = some o) (he : o'.es = o.es) (hl : o'.len = o.len)
    (hI : ∀ k, ¬ I r k) (hr : w.heap[r]? = some (Obj.cells c T fz)) (hr' : w'.heap[r]? = some (Obj.cells c' T fz)) (hsz : c'.size = c.size)
    (ho : ∀ k, k ≠ r → w'.heap[k]? = w.heap[k]?) : Later w I ι σ D w' I ι (upS σ b (some o')) D where
  keeps := fun r' k v hi hx => by
    have : r' ≠ r := fun e => hI k (e ▸ hi)
    exact ⟨(cell?_of_heap (ho r' this)).trans hx, hi⟩
  names := fun _ h => h
  live := fun b' o₁ _ h => by
    rw [find_upS] at h
    by_cases e : b' = b
    · rw [if_pos e] at h; cases h; subst e; exact ⟨o, hf, he, hl, rfl⟩
    · rw [if_neg e] at h; exact ⟨o₁, h, rfl, rfl, rfl⟩
  rows := fun r₁ c₁ T₁ fz₁ h₁ => by
    by_cases e : r₁ = r
    · subst e; rw [hr] at h₁; cases h₁; exact ⟨c', fz, hr', hsz⟩
    · exact ⟨c₁, fz₁, (ho r₁ e).trans h₁, rfl⟩
  same := fun _ _ => rfl
  loops := fun r₁ _ hst h₁ => by
    by_cases e : r₁ = r
    · subst e; rw [hr] at h₁; cases h₁; cases hst
    · exact (ho r₁ e).trans h₁

theorem SimS.write {b : Nat} {o o' : SObj} {r : Nat} {c c' : Array Value} {T : TypeId} {fz : Nat × Nat} (hs : SimS B w I ι σ D) (hf : find σ b = some o) (hι : ι b = some r)
    (hseal : o.sealed = false) (hm : o'.isMap = false) (he : o'.es = o.es) (hl : o'.len = o.len) (hfz : Fz c fz) (hle : o.len * o.es ≤ c.size)
    (hr : w.heap[r]? = some (Obj.cells c T fz)) (hr' : w'.heap[r]? = some (Obj.cells c' T fz)) (hsz : c'.size = c.size) (hws : w'.heap.size = w.heap.size)
    (ho : ∀ k, k ≠ r → w'.heap[k]? = w.heap[k]?)
    (hrow : ∀ i row, o'.row? i = some row → row.length = o'.es ∧ ∀ j v, row[j]? = some v → ∃ x, c'[i * o'.es + j]? = some x ∧ RepC w I ι σ D x v) :
    SimS B w' I ι (upS σ b (some o')) D ∧ Later w I ι σ D w' I ι (upS σ b (some o')) D := by
  have hI : ∀ k, ¬ I r k := fun k hi => by have := (hs.sep b o r k hf hι hi).1; rw [hseal] at this; cases this
  have hL : Later w I ι σ D w' I ι (upS σ b (some o')) D := later_write hf he hl hI hr hr' hsz ho
  have key : ∀ b' o₁, find (upS σ b (some o')) b' = some o₁ → (b' = b ∧ o₁ = o') ∨ (b' ≠ b ∧ find σ b' = some o₁) := by
    intro b' o₁ h
    rw [find_upS] at h
    by_cases e : b' = b
    · rw [if_pos e] at h; cases h; exact .inl ⟨e, rfl⟩
    · rw [if_neg e] at h; exact .inr ⟨e, h⟩
  have key2 : ∀ b' o₁, find (upS σ b (some o')) b' = some o₁ → ∃ o₂, find σ b' = some o₂ := by
    intro b' o₁ h
    rcases key b' o₁ h with ⟨rfl, rfl⟩ | ⟨_, h⟩
    · exact ⟨o, hf⟩
    · exact ⟨o₁, h⟩
  refine ⟨⟨fun r' k hi => by rw [hws]; exact hs.bnd r' k hi, fun b' o₁ h => let ⟨o₂, h₂⟩ := key2 b' o₁ h; hs.dom b' o₂ h₂,
    fun b₁ b₂ o₁ o₂ r' h₁ h₂ => let ⟨p₁, q₁⟩ := key2 b₁ o₁ h₁; let ⟨p₂, q₂⟩ := key2 b₂ o₂ h₂; hs.inj b₁ b₂ p₁ p₂ r' q₁ q₂,
    fun b' o₁ r' h => let ⟨o₂, h₂⟩ := key2 b' o₁ h; hs.ge b' o₂ r' h₂, fun b' o₁ r' k h e hi => ?_, fun b' o₁ h => ?_⟩, hL⟩
  · rcases key b' o₁ h with ⟨rfl, rfl⟩ | ⟨_, h⟩
    · rw [hι] at e; cases e; exact absurd hi (hI k)
    · exact hs.sep b' o₁ r' k h e hi
  · rcases key b' o₁ h with ⟨rfl, rfl⟩ | ⟨hne, h⟩
    · have hrows : RowsRep w' I ι (upS σ b' (some o₁)) D b' o₁ :=
        .inr ⟨r, c', T, fz, hι, hr', by unfold Fz at *; omega, by rw [he, hl, hsz]; exact hle, fun i row hrw => ⟨(hrow i row hrw).1, fun j v hv => by
          obtain ⟨x, hx, hrep⟩ := (hrow i row hrw).2 j v hv
          exact ⟨x, hx, hrep.mono hL⟩⟩⟩
      cases o₁ with
      | map ents => simp [SObj.isMap] at hm
      | arr e r' s => exact hrows
      | box e r' s => exact hrows
    · refine (hs.obj b' o₁ h).mono hL rfl fun r' hr₁ => ho r' fun e => hne ?_
      exact hs.inj b' b o₁ o r h hf (e ▸ hr₁) hι

/-- An append within the room: the old name dies, the block goes on under a new one. -/
theorem SimS.extend {b nm : Nat} {o o' : SObj} {r : Nat} {c c' : Array Value} {T : TypeId} {fz : Nat × Nat} (hs : SimS B w I ι σ D) (hf : find σ b = some o) (hι : ι b = some r)
    (hn : ¬ D nm) (hm : o'.isMap = false) (he : o'.es = o.es) (hseal : o'.sealed = o.sealed) (hl : o.len ≤ o'.len) (hfz : Fz c fz)
    (hr : w.heap[r]? = some (Obj.cells c T fz)) (hr' : w'.heap[r]? = some (Obj.cells c' T fz)) (hsz : c'.size = c.size) (hws : w'.heap.size = w.heap.size)
    (hsame : ∀ k, k < o.len * o.es → c'[k]? = c[k]?) (hle : o'.len * o'.es ≤ c.size)
    (ho : ∀ k, k ≠ r → w'.heap[k]? = w.heap[k]?)
    (hrow : ∀ i row, o'.row? i = some row → row.length = o'.es ∧ ∀ j v, row[j]? = some v → ∃ x, c'[i * o'.es + j]? = some x ∧ RepC w I ι σ D x v) :
    SimS B w' I (setι ι nm (some r)) (upS (upS σ b none) nm (some o')) (addD D nm) ∧ Later w I ι σ D w' I (setι ι nm (some r)) (upS (upS σ b none) nm (some o')) (addD D nm) := by
  have hbn : b ≠ nm := fun e => hn (e ▸ hs.dom b o hf)
  have key : ∀ b' o₁, find (upS (upS σ b none) nm (some o')) b' = some o₁ → (b' = nm ∧ o₁ = o') ∨ (b' ≠ nm ∧ b' ≠ b ∧ find σ b' = some o₁) := by
    intro b' o₁ h
    rw [find_upS, find_upS] at h
    by_cases e : b' = nm
    · rw [if_pos e] at h; cases h; exact .inl ⟨e, rfl⟩
    · rw [if_neg e] at h
      by_cases e' : b' = b
      · rw [if_pos e'] at h; cases h
      · rw [if_neg e'] at h; exact .inr ⟨e, e', h⟩
  have hL : Later w I ι σ D w' I (setι ι nm (some r)) (upS (upS σ b none) nm (some o')) (addD D nm) := by
    refine ⟨⟨fun r' k v hi hx => ?_, fun _ h => .inl h, fun b' o₁ hD h => ?_, fun r₁ c₁ T₁ fz₁ h₁ => ?_, fun b' hD => by have : b' ≠ nm := fun e => hn (e ▸ hD); simp [setι, this]⟩, fun r₁ _ hst h₁ => by
      by_cases e : r₁ = r
      · subst e; rw [hr] at h₁; cases h₁; cases hst
      · exact (ho r₁ e).trans h₁⟩
    · by_cases e : r' = r
      · subst e
        refine ⟨?_, hi⟩
        have hk := (hs.sep b o r' k hf hι hi).2
        simp only [World.cell?, hr', hr] at hx ⊢
        simpa [hsame k hk] using hx
      · exact ⟨(cell?_of_heap (ho r' e)).trans hx, hi⟩
    · rcases key b' o₁ h with ⟨rfl, rfl⟩ | ⟨e, _, h⟩
      · exact absurd hD hn
      · exact ⟨o₁, h, rfl, rfl, by simp [setι, e]⟩
    · by_cases e : r₁ = r
      · subst e; rw [hr] at h₁; cases h₁; exact ⟨c', fz, hr', hsz⟩
      · exact ⟨c₁, fz₁, (ho r₁ e).trans h₁, rfl⟩
  refine ⟨⟨fun r' k hi => by rw [hws]; exact hs.bnd r' k hi, fun b' o₁ h => ?_, fun b₁ b₂ o₁ o₂ r' h₁ h₂ e₁ e₂ => ?_, fun b' o₁ r' h e => ?_, fun b' o₁ r' k h e hi => ?_, fun b' o₁ h => ?_⟩, hL⟩
  · rcases key b' o₁ h with ⟨rfl, rfl⟩ | ⟨_, _, h⟩
    · exact .inr rfl
    · exact .inl (hs.dom b' o₁ h)
  · rcases key b₁ o₁ h₁ with ⟨rfl, rfl⟩ | ⟨n₁, m₁, g₁⟩ <;> rcases key b₂ o₂ h₂ with ⟨rfl, rfl⟩ | ⟨n₂, m₂, g₂⟩
    · rfl
    · simp only [setι, if_true, if_neg n₂] at e₁ e₂; cases e₁; exact absurd (hs.inj b₂ b o₂ o _ g₂ hf e₂ hι) m₂
    · simp only [setι, if_true, if_neg n₁] at e₁ e₂; cases e₂; exact absurd (hs.inj b₁ b o₁ o _ g₁ hf e₁ hι) m₁
    · simp only [setι, if_neg n₁, if_neg n₂] at e₁ e₂; exact hs.inj b₁ b₂ o₁ o₂ r' g₁ g₂ e₁ e₂
  · rcases key b' o₁ h with ⟨rfl, rfl⟩ | ⟨n₁, _, h⟩
    · simp only [setι, if_true] at e; cases e; exact hs.ge b o r hf hι
    · simp only [setι, if_neg n₁] at e; exact hs.ge b' o₁ r' h e
  · rcases key b' o₁ h with ⟨rfl, rfl⟩ | ⟨n₁, _, h⟩
    · simp only [setι, if_true] at e; cases e
      have := hs.sep b o r k hf hι hi
      refine ⟨hseal ▸ this.1, Nat.lt_of_lt_of_le this.2 ?_⟩
      rw [he]; exact Nat.mul_le_mul_right _ hl
    · simp only [setι, if_neg n₁] at e; exact hs.sep b' o₁ r' k h e hi
  · rcases key b' o₁ h with ⟨rfl, rfl⟩ | ⟨n₁, m₁, h⟩
    · have hrows : RowsRep w' I (setι ι b' (some r)) (upS (upS σ b none) b' (some o₁)) (addD D b') b' o₁ :=
        .inr ⟨r, c', T, fz, by simp [setι], hr', by unfold Fz at *; omega, by rw [hsz]; exact hle, fun i row hrw => ⟨(hrow i row hrw).1, fun j v hv => by
          obtain ⟨x, hx, hrep⟩ := (hrow i row hrw).2 j v hv
          exact ⟨x, hx, hrep.mono hL⟩⟩⟩
      cases o₁ with
      | map ents => simp [SObj.isMap] at hm
      | arr e r' s => exact hrows
      | box e r' s => exact hrows
    · refine (hs.obj b' o₁ h).mono hL (by simp [setι, n₁]) fun r' hr₁ => ho r' fun e => m₁ ?_
      exact hs.inj b' b o₁ o r h hf (e ▸ hr₁) hι
end

end Go.Ab
