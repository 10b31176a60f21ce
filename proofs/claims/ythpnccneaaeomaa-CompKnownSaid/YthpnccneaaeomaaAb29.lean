/- The relation between an abstract state and a real one; contracts; one operation in the calculus. Under: nothing. -/
import Derived.Test.YthpnccneaaeomaaAb28
import Derived.OrdersIn
namespace Go.Ab
open Go.RowKit

/-- The fence of everything, in whatever round. -/
abbrev Fw (ro : Option Nat) : Fence := { Fence.wide with round := ro }

/-- What a function said outright comes to. -/
def PrimPost (B : Nat) (w0 : World) (I0 : Imm) (gs : Value → AV → Prop) (σ' : Store) (D : Nat → Prop) (w : World) (av : AV) : Ending → World → Prop
  | .returned v, w' => ∃ I' ι', Core B w0 I0 w' I' ι' σ' D ∧ RepA w' I' ι' σ' D v av ∧ (∀ x a, gs x a → RepA w' I' ι' σ' D x a) ∧ ∀ (r : Nat) (o : Obj), still o = true → w.heap[r]? = some o → w'.heap[r]? = some o
  | _, _ => False

/-- The function is the model's. -/
def PrimOk1 (P : Program) (g : Nat) (p : PrimF) : Prop :=
  ∀ (args : List AV) (σ : Store) (v : AV) (c es : Nat) (rows : List (List PV)), p.run args σ = some (v, c, es, rows) →
    ∀ (B : Nat) (w0 : World) (I0 : Imm) (gs : Value → AV → Prop) (w : World) (I : Imm) (ι : Nat → Option Nat) (D : Nat → Prop) (vs : Array Value), Core B w0 I0 w I ι σ D → (∃ m, ∀ b, D b → b < m) →
      vs.size = args.length → (∀ (j : Nat) (x : Value) (q : AV), vs[j]? = some x → args[j]? = some q → RepA w I ι σ D x q) → (∀ x a, gs x a → RepA w I ι σ D x a) →
      (∀ w₁, (callFunc g vs).run P w₁ = .ok (.enter g vs) w₁) ∧ CallsIn Fence.wide 0 P g vs w (PrimPost B w0 I0 gs (upAll σ [(c, some (.arr es rows false))]) D w v)

/-- The package's variables hold what they are said to hold; the functions said outright are the model's. -/
structure GlobOk (P : Program) (G : Gl) (w : World) (I : Imm) : Prop where
  glob : ∀ i cs, G i = some cs → RepP w I (.pointer (some ⟨i, 0, none⟩)) (.ref cs)
  prim : ∀ g p, G.prim g = some p → PrimOk1 P g p

/-- The names that one operation may give. -/
def Names (nm : Nat) : Nat → Prop := fun b => nm ≤ b ∧ b < nm + stride

/-- What a call hands back. -/
def ResOk (B : Nat) (w' : World) (I' : Imm) (own : Own) (v : Value) (r : PV) : Prop :=
  ∀ nm, ∃ ι₁, SimS B w' I' ι₁ (upAll [] (imp own nm r).2) (Names nm) ∧ RepA w' I' ι₁ (upAll [] (imp own nm r).2) (Names nm) v (imp own nm r).1

def ArgsOk (w : World) (I : Imm) (vs : Array Value) (ps : List PV) : Prop := vs.size = ps.length ∧ ∀ (j : Nat) (x : Value) (q : PV), vs[j]? = some x → ps[j]? = some q → RepP w I x q

def CallPost (w : World) (I : Imm) (own : Own) (r : PV) : Ending → World → Prop
  | .returned v, w' => ∃ I', Below w.heap.size w w' ∧ (∀ a k, I a k → I' a k) ∧ (∀ a k, a < w.heap.size → I' a k → I a k) ∧ ResOk w.heap.size w' I' own v r
  | _, _ => False

/-- A function's contract, in every world. -/
def OkC (P : Program) (G : Gl) (g : Nat) (ps : List PV) (own : Own) (r : PV) : Prop :=
  ∀ (w : World) (I : Imm) (vs : Array Value), (∀ a k, I a k → a < w.heap.size) → GlobOk P G w I → ArgsOk w I vs ps →
    (∀ w₁, (callFunc g vs).run P w₁ = .ok (.enter g vs) w₁) ∧ CallsIn Fence.wide 0 P g vs w (CallPost w I own r)

/-- The deferred calls of a frame are marks of loops, each with its block. -/
def Marks (B : Nat) (keep : Nat → Obj → Prop) (w : World) (ds : List Deferred) : Prop := ∃ rs : List Nat, ds.map (·.target) = rs.map Target.collected ∧ rs.Nodup ∧ ∀ r ∈ rs, B ≤ r ∧ (∀ o, ¬ keep r o) ∧ w.heap[r]? = some (.deferred (some []))

/-- A loop over a function that is under way: its name, its record. -/
structure LoopAt where
  b : Nat
  l : Nat
  data : Loop

/-- The record where no jump (0) or that jump is pending. -/
def LoopAt.at (p : LoopAt) : Nat → Loop
  | 0 => { p.data with state := .ready, pending := none }
  | 1 => { p.data with state := .done, pending := some .ret }
  | i + 2 => { p.data with state := .done, pending := some (.exit i) }

/-- What rides along: values that must stay what they stand for; the names that were there before; blocks that must stay; the loop whose iterator this is. -/
structure Gh where
  gs : Value → AV → Prop
  D0 : Nat → Prop
  n0 : Nat
  keep : Nat → Obj → Prop
  lp : Option LoopAt

def Gh.top : Gh := ⟨fun _ _ => False, fun _ => True, 0, fun _ _ => False, none⟩

structure SimX (P : Program) (G : Gl) (B : Nat) (w0 : World) (I0 : Imm) (gh : Gh) (N : Nat → Prop) (s : St) (a : Act) (w : World) (I : Imm) (ι : Nat → Option Nat) (D : Nat → Prop) : Prop where
  core : Core B w0 I0 w I ι s.σ D
  names : ∀ b, D b → N b
  dfs : Marks B gh.keep w a.defers
  size : a.tmps.size = s.nt
  glob : GlobOk P G w I
  tm : ∀ t, t < 1024 → RepA w I ι s.σ D (a.tmps.getD t undef) (s.tm.get tdepth t)
  ghost : ∀ v av, gh.gs v av → RepA w I ι s.σ D v av
  base : ∀ b, D b → gh.D0 b ∨ gh.n0 ≤ b
  kept : ∀ r o, gh.keep r o → still o = true ∧ w.heap[r]? = some o
  loop : ∀ p, gh.lp = some p → s.nt ≤ 1023 ∧ B ≤ p.l ∧ ∃ k, s.tm.get tdepth markT = .mark k ∧ w.heap[p.l]? = some (.loop (p.at k))

def Sim (P : Program) (G : Gl) (B : Nat) (w0 : World) (I0 : Imm) (gh : Gh) (N : Nat → Prop) (s : St) (a : Act) (w : World) : Prop :=
  ∃ I ι D, SimX P G B w0 I0 gh N s a w I ι D

section
variable {P : Program} {G : Gl} {B : Nat} {w0 : World} {I0 : Imm} {gh : Gh} {N : Nat → Prop} {s : St} {a : Act} {w w' : World} {I I' : Imm} {ι ι' : Nat → Option Nat} {D D' : Nat → Prop}

theorem GlobOk.mono (h : GlobOk P G w I) (hk : Keeps w I w' I') : GlobOk P G w' I' := ⟨fun i cs hi => (h.glob i cs hi).mono hk, h.prim⟩

theorem SimX.eval (h : SimX P G B w0 I0 gh N s a w I ι D) {o : Operand} {r : RA} (hk : chkA o r = true) : RepA w I ι s.σ D (a.eval o) (s.ev G r) := by
  unfold chkA at hk
  split at hk
  · simp at hk
    obtain ⟨rfl, hlt⟩ := hk
    exact h.tm _ hlt
  · exact chkV_rep hk
  · simp at hk; subst hk
    exact .func rfl rfl (fun j x q _ hq => by simp at hq) (fun j x q _ hq => by simp at hq)
  · simp at hk; subst hk
    simp only [St.ev, Act.eval]
    split
    · rename_i cs hcs; exact .pv (h.glob.glob _ _ hcs)
    · exact .undef _
  · cases hk

theorem Marks.mono {m : Nat} {kp : Nat → Obj → Prop} {ds : List Deferred} {σ σ' : Store} (h : Marks m kp w ds) (hL : Later w I ι σ D w' I' ι' σ' D') : Marks m kp w' ds :=
  let ⟨rs, h1, h2, h3⟩ := h; ⟨rs, h1, h2, fun r hr => ⟨(h3 r hr).1, (h3 r hr).2.1, hL.loops r _ rfl (h3 r hr).2.2⟩⟩

theorem SimX.put (h : SimX P G B w0 I0 gh N s a w I ι D) {dst : Option Nat} {av : AV} {v : Value} {σ' : Store} {N' : Nat → Prop} (hd : ∀ d, dst = some d → d < s.nt ∧ d < 1024)
    (hc : Core B w0 I0 w' I' ι' σ' D') (hL : Later w I ι s.σ D w' I' ι' σ' D') (hv : RepA w' I' ι' σ' D' v av) (hN : ∀ b, D' b → N' b) (hb : ∀ b, D' b → D b ∨ gh.n0 ≤ b) :
    SimX P G B w0 I0 gh N' (putW s dst av σ') (a.put dst v) w' I' ι' D' := by
  have hσ : (putW s dst av σ').σ = σ' := putW_σ
  refine ⟨by rw [hσ]; exact hc, hN, ?_, ?_, h.glob.mono hL.keeps, fun t ht => ?_, fun v av hg => by rw [hσ]; exact (h.ghost v av hg).mono hL, fun b hD => (hb b hD).elim (h.base b) .inr, fun r o hk => ⟨(h.kept r o hk).1, hL.loops r o (h.kept r o hk).1 (h.kept r o hk).2⟩, fun p hp => ?_⟩
  · cases dst <;> exact h.dfs.mono hL
  · cases dst with
    | none => exact h.size
    | some d => simp only [Act.put, putW, Array.size_setIfInBounds]; exact h.size
  · rw [hσ, get_put ht fun d e => (hd d e).2]
    cases dst with
    | none => simp only [Act.put, reduceCtorEq, if_false]; exact (h.tm t ht).mono hL
    | some d =>
      have hds : d < a.tmps.size := by rw [h.size]; exact (hd d rfl).1
      simp only [Act.put, Option.some.injEq]
      by_cases e : d = t
      · subst e; rw [if_pos rfl]
        have : (a.tmps.setIfInBounds d v).getD d undef = v := by simp [Array.getD, hds]
        rw [this]; exact hv
      · rw [if_neg e]
        have : (a.tmps.setIfInBounds d v).getD t undef = a.tmps.getD t undef := by
          simp only [Array.getD_eq_getD_getElem?]
          rw [Array.getElem?_setIfInBounds_ne e]
        rw [this]; exact (h.tm t ht).mono hL
  · obtain ⟨h1, h2, k, h3, h4⟩ := h.loop p hp
    refine ⟨by rw [putW_nt]; exact h1, h2, k, ?_, hL.loops _ _ rfl h4⟩
    rw [get_put (by decide) fun d e => (hd d e).2, if_neg (fun e => by have := (hd _ e).1; simp only [markT] at this; omega)]
    exact h3

theorem SimX.eqv (h : SimX P G B w0 I0 gh N s a w I ι D) {s' : St} (he : StEq s s') : SimX P G B w0 I0 gh N s' a w I ι D := by
  have hL : Later w I ι s.σ D w I ι s'.σ D := ⟨⟨fun _ _ _ hi hx => ⟨hx, hi⟩, fun _ h => h, fun b o' _ ho => by rw [he.σ] at ho; exact ⟨o', ho, rfl, rfl, rfl⟩, fun _ c _ fz h => ⟨c, fz, h, rfl⟩, fun _ _ => rfl⟩, fun _ _ _ h => h⟩
  obtain ⟨hs, b1, b2, b3, b4⟩ := h.core
  refine ⟨⟨⟨hs.bnd, fun b o h' => hs.dom b o (by rw [← he.σ]; exact h'), fun b b' o o' r h₁ h₂ => hs.inj b b' o o' r (by rw [← he.σ]; exact h₁) (by rw [← he.σ]; exact h₂),
    fun b o r h' => hs.ge b o r (by rw [← he.σ]; exact h'), fun b o r k h' => hs.sep b o r k (by rw [← he.σ]; exact h'),
    fun b o h' => (hs.obj b o (by rw [← he.σ]; exact h')).mono hL rfl fun _ _ => rfl⟩, b1, b2, b3, b4⟩, h.names, h.dfs, h.size.trans he.nt.symm, h.glob, fun t ht => ?_, fun v av hg => (h.ghost v av hg).mono hL, h.base, h.kept, fun p hp => let ⟨h1, h2, k, h3, h4⟩ := h.loop p hp; ⟨by rw [he.nt]; exact h1, h2, k, by rw [he.tm]; exact h3, h4⟩⟩
  rw [he.tm]; exact (h.tm t ht).mono hL

theorem Sim.eqv (h : Sim P G B w0 I0 gh N s a w) {s' : St} (he : StEq s s') : Sim P G B w0 I0 gh N s' a w := let ⟨I, ι, D, h⟩ := h; ⟨I, ι, D, h.eqv he⟩

theorem Sim.weaken (h : Sim P G B w0 I0 gh N s a w) {N' : Nat → Prop} (hn : ∀ b, N b → N' b) : Sim P G B w0 I0 gh N' s a w :=
  let ⟨I, ι, D, h⟩ := h; ⟨I, ι, D, h.core, fun b hb => hn b (h.names b hb), h.dfs, h.size, h.glob, h.tm, h.ghost, h.base, h.kept, h.loop⟩

/-- The count of draws goes up. -/
theorem Sim.drew (h : Sim P G B w0 I0 gh N s a w) : Sim P G B w0 I0 gh N s a { w with drawn := w.drawn + 1 } := by
  obtain ⟨I, ι, D, h⟩ := h
  have hL : Later w I ι s.σ D { w with drawn := w.drawn + 1 } I ι s.σ D := later_heap rfl
  obtain ⟨hs, b1, b2, b3, b4⟩ := h.core
  exact ⟨I, ι, D, ⟨hs.heap rfl, b1.drew, b2, b3, b4⟩, h.names, h.dfs, h.size, h.glob.mono hL.keeps, fun t ht => (h.tm t ht).mono hL, fun v av hg => (h.ghost v av hg).mono hL, h.base, h.kept, h.loop⟩

/-- Records of loops and blocks of deferred calls are laid, or turn. -/
theorem Core.move {σ : Store} (hc : Core B w0 I0 w I ι σ D) (hobj : ∀ (r : Nat) (o : Obj), w.heap[r]? = some o → still o = false → w'.heap[r]? = some o) (hsz : w.heap.size ≤ w'.heap.size) (hb : Below B w w') (hι : ∀ b, D b → ι' b = ι b) (hD : ∀ b, D b → D' b) :
    Core B w0 I0 w' I ι' σ D' ∧ Later0 w I ι σ D w' I ι' σ D' := by
  have hL : Later0 w I ι σ D w' I ι' σ D' := by
    refine ⟨fun r' k v hi hx => ⟨?_, hi⟩, hD, fun b o₁ hb h => ⟨o₁, h, rfl, rfl, hι b hb⟩, fun r₁ c T fz h₁ => ⟨c, fz, hobj _ _ h₁ rfl, rfl⟩, hι⟩
    cases hr : w.heap[r']? with
    | none => simp [World.cell?, hr] at hx
    | some o =>
      cases hs : still o with
      | false => exact (cell?_of_heap ((hobj r' o hr hs).trans hr.symm)).trans hx
      | true => cases o <;> simp [World.cell?, hr, still] at hx hs
  refine ⟨?_, hL⟩
  obtain ⟨hs, b1, b2, b3, b4⟩ := hc
  refine ⟨⟨fun r' k hi => Nat.lt_of_lt_of_le (hs.bnd r' k hi) hsz, fun b o h => hD b (hs.dom b o h), fun b b' o o' r h₁ h₂ e₁ e₂ => hs.inj b b' o o' r h₁ h₂ (by rw [← hι b (hs.dom b o h₁)]; exact e₁) (by rw [← hι b' (hs.dom b' o' h₂)]; exact e₂),
    fun b o r h e => hs.ge b o r h (by rw [← hι b (hs.dom b o h)]; exact e), fun b o r k h e hi => hs.sep b o r k h (by rw [← hι b (hs.dom b o h)]; exact e) hi, fun b o hf => ?_⟩, b1.trans hb, b2, b3, b4⟩
  have hob := hs.obj b o hf
  have hib := hι b (hs.dom b o hf)
  have rows : RowsRep w I ι σ D b o → RowsRep w' I ι' σ D' b o := by
    rintro (⟨h1, h2⟩ | ⟨r', c, T, fz, h1, h2, h3, h4, h5⟩)
    · exact .inl ⟨hib.trans h1, h2⟩
    · refine .inr ⟨r', c, T, fz, hib.trans h1, hobj _ _ h2 rfl, h3, h4, fun i row hrow => ⟨(h5 i row hrow).1, fun j v hv => ?_⟩⟩
      obtain ⟨x, hx, hrep⟩ := (h5 i row hrow).2 j v hv
      exact ⟨x, hx, hrep.1, hrep.2.mono0 hL⟩
  cases o with
  | arr e rs sl => exact rows hob
  | box e rs sl => exact rows hob
  | map ents =>
    obtain ⟨r', es, clock, h1, h2, h3, h4⟩ := hob
    exact ⟨r', es, clock, hib.trans h1, hobj _ _ h2 rfl, fun e he => let ⟨k, v, a, b, c⟩ := h3 e he; ⟨k, v, a, b, c.mono0 hL⟩, h4⟩

/-- What a call hands back, taken over. -/
theorem Core.take {σ : Store} {own : Own} {r : PV} {v : Value} {nm : Nat} (hc : Core B w0 I0 w I ι σ D) (hn : ∀ b, D b → ¬ Names nm b) (hb : Below w.heap.size w w') (h1 : ∀ a k, I a k → I' a k)
    (h2 : ∀ a k, a < w.heap.size → I' a k → I a k) (hr : ResOk w.heap.size w' I' own v r) :
    ∃ ι', Core B w0 I0 w' I' ι' (upAll σ (imp own nm r).2) (fun b => D b ∨ Names nm b) ∧ Later w I ι σ D w' I' ι' (upAll σ (imp own nm r).2) (fun b => D b ∨ Names nm b) ∧
      RepA w' I' ι' (upAll σ (imp own nm r).2) (fun b => D b ∨ Names nm b) v (imp own nm r).1 := by
  obtain ⟨ι₁, hs₁, hrep⟩ := hr nm
  obtain ⟨hs, hbl, hB, hext, hold⟩ := hc
  generalize (imp own nm r).2 = up at hs₁ hrep ⊢
  generalize (imp own nm r).1 = av at hrep ⊢
  have hBw : B ≤ w.heap.size := Nat.le_trans hB hbl.size
  classical
  let ι' : Nat → Option Nat := fun b => if Names nm b then ι₁ b else ι b
  have hnew : ∀ b, Names nm b → ι' b = ι₁ b := fun b h => if_pos h
  have hkeep : ∀ b, D b → ι' b = ι b := fun b h => if_neg (hn b h)
  have hf : ∀ b o, find (upAll σ up) b = some o → (Names nm b ∧ find (upAll [] up) b = some o) ∨ (D b ∧ find σ b = some o) := by
    intro b o h
    rw [find_upAll] at h
    cases hu : upF up b with
    | some x =>
      rw [hu] at h
      simp only at h; subst h
      have : find (upAll [] up) b = some o := by rw [find_upAll, hu]
      exact .inl ⟨hs₁.dom b o this, this⟩
    | none =>
      rw [hu] at h
      exact .inr ⟨hs.dom b o h, h⟩
  have hheap : ∀ k, k < w.heap.size → w'.heap[k]? = w.heap[k]? := hb.block
  have hL : Later w I ι σ D w' I' ι' (upAll σ up) (fun b => D b ∨ Names nm b) := by
    refine ⟨⟨fun r' k x hi hx => ⟨(cell?_of_heap (hheap r' (hs.bnd r' k hi))).trans hx, h1 r' k hi⟩, fun b h => .inl h, fun b o' hD ho => ?_, fun r' c T fz hr' => ⟨c, fz, ?_, rfl⟩, hkeep⟩, fun r' _ _ hr' => by rw [hheap r' (Array.getElem?_eq_some_iff.1 hr').1]; exact hr'⟩
    · rcases hf b o' ho with ⟨h, _⟩ | ⟨_, h⟩
      · exact absurd h (hn b hD)
      · exact ⟨o', h, rfl, rfl, hkeep b hD⟩
    · rw [hheap r' (Array.getElem?_eq_some_iff.1 hr').1]; exact hr'
  have hL₁ : Later w' I' ι₁ (upAll [] up) (Names nm) w' I' ι' (upAll σ up) (fun b => D b ∨ Names nm b) := by
    refine ⟨⟨fun r' k x hi hx => ⟨hx, hi⟩, fun b h => .inr h, fun b o' hD ho => ?_, fun r' c T fz hr' => ⟨c, fz, hr', rfl⟩, hnew⟩, fun _ _ _ h => h⟩
    rcases hf b o' ho with ⟨_, h⟩ | ⟨h, _⟩
    · exact ⟨o', h, rfl, rfl, hnew b hD⟩
    · exact absurd hD (hn b h)
  refine ⟨ι', ⟨⟨fun r' k hi => hs₁.bnd r' k hi, fun b o ho => ?_, fun b b' o o' r' ho ho' e e' => ?_, fun b o r' ho e => ?_, fun b o r' k ho e hi => ?_, fun b o ho => ?_⟩, hbl.trans (hb.mono hBw), hB,
    fun r' k hi => h1 r' k (hext r' k hi), fun r' k hlt hi => hold r' k hlt (h2 r' k (by omega) hi)⟩, hL, hrep.mono hL₁⟩
  · rcases hf b o ho with ⟨h, _⟩ | ⟨h, _⟩
    · exact .inr h
    · exact .inl h
  · rcases hf b o ho with ⟨n1, f1⟩ | ⟨n1, f1⟩ <;> rcases hf b' o' ho' with ⟨n2, f2⟩ | ⟨n2, f2⟩
    · rw [hnew b n1] at e; rw [hnew b' n2] at e'; exact hs₁.inj b b' o o' r' f1 f2 e e'
    · rw [hnew b n1] at e; rw [hkeep b' n2] at e'
      have := hs₁.ge b o r' f1 e
      have := hs.lt f2 e'; omega
    · rw [hkeep b n1] at e; rw [hnew b' n2] at e'
      have := hs₁.ge b' o' r' f2 e'
      have := hs.lt f1 e; omega
    · rw [hkeep b n1] at e; rw [hkeep b' n2] at e'; exact hs.inj b b' o o' r' f1 f2 e e'
  · rcases hf b o ho with ⟨n1, f1⟩ | ⟨n1, f1⟩
    · rw [hnew b n1] at e; have := hs₁.ge b o r' f1 e; omega
    · rw [hkeep b n1] at e; exact hs.ge b o r' f1 e
  · rcases hf b o ho with ⟨n1, f1⟩ | ⟨n1, f1⟩
    · rw [hnew b n1] at e; exact hs₁.sep b o r' k f1 e hi
    · rw [hkeep b n1] at e; exact hs.sep b o r' k f1 e (h2 r' k (hs.lt f1 e) hi)
  · rcases hf b o ho with ⟨n1, f1⟩ | ⟨n1, f1⟩
    · exact (hs₁.obj b o f1).mono hL₁ (hnew b n1) fun _ _ => rfl
    · exact (hs.obj b o f1).mono hL (hkeep b n1) fun r' hr' => hheap r' (hs.lt f1 hr')
end
end Go.Ab
