/- Abstract values, and what they stand for in the model's memory. Under: nothing. -/
import Derived.CallsIn
import Derived.Laws.World
import Derived.Laws.Sem
import Derived.Below
namespace Go.Ab

/-- Pure values: no part of them is ever changed again. -/
inductive PV where
  | bool (b : Bool)
  | int (k : IntKind) (n : Int)
  | str (s : List UInt8)
  | sl (es : Nat) (rows : List (List PV))
  | agg (cs : List PV)
  | tup (vs : List PV)
  | func (fn : Fn) (first caps : List PV)
  | nilFunc
  | ref (cs : List PV)
  | emp (es : Nat)
  deriving Inhabited

/-- Values in a frame: pure ones, and such as refer to blocks of the activation's own. -/
inductive AV where
  | pv (p : PV)
  | emp (es : Nat)
  | fsl (es : Nat) (rows : List (List PV))
  | ptr (b i j : Nat)
  | own (b i n : Nat)
  | mref (b : Nat)
  | agg (cs : List AV)
  | tup (vs : List AV)
  | func (fn : Fn) (first caps : List AV)
  | anyB
  | yld (b : Nat)
  | mark (k : Nat)
  | undef
  deriving Inhabited

/-- A block of the activation's own. 'es': cells a row. 'sl': sealed: its rows are not changed any more. -/
inductive SObj where
  | arr (es : Nat) (rows : List (List PV)) (sl : Bool)
  | box (es : Nat) (rows : List (List AV)) (sl : Bool)
  | map (ents : List (List UInt8 × AV))
  deriving Inhabited

def SObj.es : SObj → Nat
  | .arr e _ _ => e
  | .box e _ _ => e
  | .map _ => 1
def SObj.len : SObj → Nat
  | .arr _ r _ => r.length
  | .box _ r _ => r.length
  | .map _ => 0
def SObj.sealed : SObj → Bool
  | .arr _ _ s => s
  | .box _ _ s => s
  | .map _ => false
def SObj.isMap : SObj → Bool
  | .map _ => true
  | _ => false

/-- Blocks by their names; a dead one holds 'none'. -/
abbrev Store := List (Nat × Option SObj)

def find : Store → Nat → Option SObj
  | [], _ => none
  | (k, o) :: s, b => match k == b with | true => o | false => find s b

abbrev Imm := Nat → Nat → Prop

inductive RepP (w : World) (I : Imm) : Value → PV → Prop
  | bool (b : Bool) : RepP w I (.bool b) (.bool b)
  | int (k : IntKind) (n : Int) : RepP w I (.int k n) (.int k n)
  | str (s : ByteArray) : RepP w I (.string s) (.str s.data.toList)
  | sl {p : Option Addr} {len cap es : Nat} {rows : List (List PV)} (f : Nat → Nat → Value) (hl : rows.length = len) (hc : len ≤ cap)
      (hw : ∀ (i : Nat) (row : List PV), rows[i]? = some row → row.length = es)
      (hp : rows ≠ [] → ∃ a : Addr, p = some a ∧ a.spot = none ∧ ∀ (i j : Nat), i < rows.length → j < es →
        w.cell? ⟨a.block, a.off + (i * es + j), none⟩ = some (f i j) ∧ I a.block (a.off + (i * es + j)) ∧ (f i j).oneCell' = true)
      (hr : ∀ (i j : Nat) (row : List PV) (q : PV), rows[i]? = some row → row[j]? = some q → RepP w I (f i j) q) : RepP w I (.slice p len cap) (.sl es rows)
  | ref {a : Addr} {cs : List PV} (f : Nat → Value) (ha : a.spot = none)
      (hp : ∀ j : Nat, j < cs.length → w.cell? ⟨a.block, a.off + j, none⟩ = some (f j) ∧ I a.block (a.off + j) ∧ (f j).oneCell' = true)
      (hr : ∀ (j : Nat) (q : PV), cs[j]? = some q → RepP w I (f j) q) : RepP w I (.pointer (some a)) (.ref cs)
  | agg {cs : Array Value} {ps : List PV} (hl : cs.size = ps.length)
      (h : ∀ (j : Nat) (x : Value) (q : PV), cs[j]? = some x → ps[j]? = some q → RepP w I x q) : RepP w I (.agg cs) (.agg ps)
  | tup {cs : Array Value} {ps : List PV} (hl : cs.size = ps.length)
      (h : ∀ (j : Nat) (x : Value) (q : PV), cs[j]? = some x → ps[j]? = some q → RepP w I x q) : RepP w I (.tuple cs) (.tup ps)
  | func {fn : Fn} {xs ys : Array Value} {ps qs : List PV} (hl : xs.size = ps.length) (hl' : ys.size = qs.length)
      (h : ∀ (j : Nat) (x : Value) (q : PV), xs[j]? = some x → ps[j]? = some q → RepP w I x q)
      (h' : ∀ (j : Nat) (x : Value) (q : PV), ys[j]? = some x → qs[j]? = some q → RepP w I x q) : RepP w I (.func fn xs ys) (.func fn ps qs)
  | nilFunc : RepP w I .nilFunc .nilFunc
  | emp (es : Nat) : RepP w I (.slice none 0 0) (.emp es)

/-- What was fixed stays fixed, and reads as it did. -/
def Keeps (w : World) (I : Imm) (w' : World) (I' : Imm) : Prop :=
  ∀ r o x, I r o → w.cell? ⟨r, o, none⟩ = some x → w'.cell? ⟨r, o, none⟩ = some x ∧ I' r o

theorem RepP.mono {w w' : World} {I I' : Imm} (hk : Keeps w I w' I') {v : Value} {p : PV} (h : RepP w I v p) : RepP w' I' v p := by
  induction h with
  | bool b => exact .bool b
  | int k n => exact .int k n
  | str s => exact .str s
  | sl f hl hc hw hp _ ih =>
    refine .sl f hl hc hw (fun hne => ?_) ih
    obtain ⟨a, ha, hs, hx⟩ := hp hne
    exact ⟨a, ha, hs, fun i j hi hj => let k := hk _ _ _ (hx i j hi hj).2.1 (hx i j hi hj).1; ⟨k.1, k.2, (hx i j hi hj).2.2⟩⟩
  | ref f ha hp _ ih => exact .ref f ha (fun j hj => let k := hk _ _ _ (hp j hj).2.1 (hp j hj).1; ⟨k.1, k.2, (hp j hj).2.2⟩) ih
  | agg hl _ ih => exact .agg hl ih
  | tup hl _ ih => exact .tup hl ih
  | func hl hl' _ _ ih ih' => exact .func hl hl' ih ih'
  | nilFunc => exact .nilFunc
  | emp es => exact .emp es

/-- A slice value over the own block b. -/
def OwnVal (w : World) (ι : Nat → Option Nat) (o : SObj) (b i n : Nat) (v : Value) : Prop :=
  ∃ p cap, v = .slice p n cap ∧ i + n ≤ o.len ∧ (n ≤ cap ∧ o.len ≤ i + cap) ∧
    ((n = 0 ∧ cap = 0) ∨ ∃ (r : Nat) (c : Array Value) (T : TypeId) (fz : Nat × Nat), ι b = some r ∧ p = some ⟨r, i * o.es, none⟩ ∧ w.heap[r]? = some (Obj.cells c T fz) ∧ (i + cap) * o.es ≤ c.size)

inductive RepA (w : World) (I : Imm) (ι : Nat → Option Nat) (σ : Store) (D : Nat → Prop) : Value → AV → Prop
  | pv {v : Value} {p : PV} (h : RepP w I v p) : RepA w I ι σ D v (.pv p)
  | emp (es : Nat) : RepA w I ι σ D (.slice none 0 0) (.emp es)
  | fsl {p : Option Addr} {n es : Nat} {rows : List (List PV)} (h : RepP w I (.slice p n n) (.sl es rows)) : RepA w I ι σ D (.slice p n n) (.fsl es rows)
  | ptr {v : Value} {b i j : Nat} (hD : D b) (h1 : v.oneCell' = true) (h : ∀ o, find σ b = some o → ∃ r, ι b = some r ∧ v = .pointer (some ⟨r, i * o.es + j, none⟩)) : RepA w I ι σ D v (.ptr b i j)
  | own {v : Value} {b i n : Nat} (hD : D b) (h1 : v.oneCell' = true) (h : ∀ o, find σ b = some o → OwnVal w ι o b i n v) : RepA w I ι σ D v (.own b i n)
  | mref {v : Value} {b : Nat} (hD : D b) (h1 : v.oneCell' = true) (h : ∀ o, find σ b = some o → ∃ r, ι b = some r ∧ v = .map (some r)) : RepA w I ι σ D v (.mref b)
  | agg {cs : Array Value} {ps : List AV} (hl : cs.size = ps.length)
      (h : ∀ (j : Nat) (x : Value) (q : AV), cs[j]? = some x → ps[j]? = some q → RepA w I ι σ D x q) : RepA w I ι σ D (.agg cs) (.agg ps)
  | tup {cs : Array Value} {ps : List AV} (hl : cs.size = ps.length)
      (h : ∀ (j : Nat) (x : Value) (q : AV), cs[j]? = some x → ps[j]? = some q → RepA w I ι σ D x q) : RepA w I ι σ D (.tuple cs) (.tup ps)
  | func {fn : Fn} {xs ys : Array Value} {ps qs : List AV} (hl : xs.size = ps.length) (hl' : ys.size = qs.length)
      (h : ∀ (j : Nat) (x : Value) (q : AV), xs[j]? = some x → ps[j]? = some q → RepA w I ι σ D x q)
      (h' : ∀ (j : Nat) (x : Value) (q : AV), ys[j]? = some x → qs[j]? = some q → RepA w I ι σ D x q) : RepA w I ι σ D (.func fn xs ys) (.func fn ps qs)
  | anyB (b : Bool) : RepA w I ι σ D (.bool b) .anyB
  | yld {v : Value} {b : Nat} (hD : D b) (h : ∃ l, ι b = some l ∧ v = .func (.yield l) #[] #[]) : RepA w I ι σ D v (.yld b)
  | mark (v : Value) (k : Nat) : RepA w I ι σ D v (.mark k)
  | undef (v : Value) : RepA w I ι σ D v .undef

/-- From one moment to a later one, for values. -/
structure Later0 (w : World) (I : Imm) (ι : Nat → Option Nat) (σ : Store) (D : Nat → Prop)
    (w' : World) (I' : Imm) (ι' : Nat → Option Nat) (σ' : Store) (D' : Nat → Prop) : Prop where
  keeps : Keeps w I w' I'
  names : ∀ b, D b → D' b
  live : ∀ b o', D b → find σ' b = some o' → ∃ o, find σ b = some o ∧ o'.es = o.es ∧ o'.len = o.len ∧ ι' b = ι b
  rows : ∀ (r : Nat) (c : Array Value) (T : TypeId) (fz : Nat × Nat), w.heap[r]? = some (Obj.cells c T fz) → ∃ (c' : Array Value) (fz' : Nat × Nat), w'.heap[r]? = some (Obj.cells c' T fz') ∧ c'.size = c.size
  same : ∀ b, D b → ι' b = ι b

/-- Such as no operation of a frame writes to: the records of loops, their blocks of deferred calls. -/
def still (o : Obj) : Bool := match o with
  | .cells .. => false
  | .map .. => false
  | _ => true

/-- The same, and the records of loops stay as they are. -/
structure Later (w : World) (I : Imm) (ι : Nat → Option Nat) (σ : Store) (D : Nat → Prop)
    (w' : World) (I' : Imm) (ι' : Nat → Option Nat) (σ' : Store) (D' : Nat → Prop) : Prop extends Later0 w I ι σ D w' I' ι' σ' D' where
  loops : ∀ (r : Nat) (o : Obj), still o = true → w.heap[r]? = some o → w'.heap[r]? = some o

theorem Later.refl {w : World} {I : Imm} {ι : Nat → Option Nat} {σ : Store} {D : Nat → Prop} : Later w I ι σ D w I ι σ D :=
  ⟨⟨fun _ _ _ hi hx => ⟨hx, hi⟩, fun _ h => h, fun _ o' _ h => ⟨o', h, rfl, rfl, rfl⟩, fun _ c _ fz h => ⟨c, fz, h, rfl⟩, fun _ _ => rfl⟩, fun _ _ _ h => h⟩

theorem Later.trans {w w' w'' : World} {I I' I'' : Imm} {ι ι' ι'' : Nat → Option Nat} {σ σ' σ'' : Store} {D D' D'' : Nat → Prop}
    (h : Later w I ι σ D w' I' ι' σ' D') (k : Later w' I' ι' σ' D' w'' I'' ι'' σ'' D'') : Later w I ι σ D w'' I'' ι'' σ'' D'' where
  keeps := fun r o x hi hx => let ⟨a, b⟩ := h.keeps r o x hi hx; k.keeps r o x b a
  names := fun b hb => k.names b (h.names b hb)
  live := fun b o' hb hf => by
    obtain ⟨o, ho, e1, e2, e3⟩ := k.live b o' (h.names b hb) hf
    obtain ⟨o₂, ho₂, f1, f2, f3⟩ := h.live b o hb ho
    exact ⟨o₂, ho₂, e1.trans f1, e2.trans f2, e3.trans f3⟩
  rows := fun r c T fz hr => by
    obtain ⟨c', fz', h1, h2⟩ := h.rows r c T fz hr
    obtain ⟨c'', fz'', k1, k2⟩ := k.rows r c' T fz' h1
    exact ⟨c'', fz'', k1, k2.trans h2⟩
  same := fun b hb => (k.same b (h.names b hb)).trans (h.same b hb)
  loops := fun r o hs hr => k.loops r o hs (h.loops r o hs hr)

theorem RepA.mono0 {w w' : World} {I I' : Imm} {ι ι' : Nat → Option Nat} {σ σ' : Store} {D D' : Nat → Prop} (hk : Later0 w I ι σ D w' I' ι' σ' D')
    {v : Value} {p : AV} (h : RepA w I ι σ D v p) : RepA w' I' ι' σ' D' v p := by
  induction h with
  | pv h => exact .pv (h.mono hk.keeps)
  | emp es => exact .emp es
  | fsl h => exact .fsl (h.mono hk.keeps)
  | ptr hD h1 h =>
    refine .ptr (hk.names _ hD) h1 fun o' ho' => ?_
    obtain ⟨o, ho, e1, _, e3⟩ := hk.live _ _ hD ho'
    obtain ⟨r, hr, hv⟩ := h o ho
    exact ⟨r, e3.trans hr, by rw [e1]; exact hv⟩
  | own hD h1 h =>
    refine .own (hk.names _ hD) h1 fun o' ho' => ?_
    obtain ⟨o, ho, e1, e2, e3⟩ := hk.live _ _ hD ho'
    obtain ⟨p, cap, hv, hlen, hcap, hx⟩ := h o ho
    refine ⟨p, cap, hv, e2 ▸ hlen, ⟨hcap.1, e2 ▸ hcap.2⟩, ?_⟩
    rcases hx with hx | ⟨r, c, T, fz, h1, h2, h3, h4⟩
    · exact .inl hx
    · obtain ⟨c', fz', k1, k2⟩ := hk.rows r c T fz h3
      exact .inr ⟨r, c', T, fz', e3.trans h1, by rw [e1]; exact h2, k1, by rw [e1, k2]; exact h4⟩
  | mref hD h1 h =>
    refine .mref (hk.names _ hD) h1 fun o' ho' => ?_
    obtain ⟨o, ho, _, _, e3⟩ := hk.live _ _ hD ho'
    obtain ⟨r, hr, hv⟩ := h o ho
    exact ⟨r, e3.trans hr, hv⟩
  | agg hl _ ih => exact .agg hl ih
  | tup hl _ ih => exact .tup hl ih
  | func hl hl' _ _ ih ih' => exact .func hl hl' ih ih'
  | anyB b => exact .anyB b
  | yld hD h => exact .yld (hk.names _ hD) (by obtain ⟨l, h1, h2⟩ := h; exact ⟨l, (hk.same _ hD).trans h1, h2⟩)
  | mark v k => exact .mark v k
  | undef v => exact .undef v

theorem RepA.mono {w w' : World} {I I' : Imm} {ι ι' : Nat → Option Nat} {σ σ' : Store} {D D' : Nat → Prop} (hk : Later w I ι σ D w' I' ι' σ' D')
    {v : Value} {p : AV} (h : RepA w I ι σ D v p) : RepA w' I' ι' σ' D' v p := h.mono0 hk.toLater0

end Go.Ab
