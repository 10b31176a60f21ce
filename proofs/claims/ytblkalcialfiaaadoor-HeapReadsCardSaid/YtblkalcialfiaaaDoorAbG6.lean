/- The abstract layer, part 6: values, steps, their soundness. Under: nothing. -/
import Derived.Test.YtblkalcialfiaaaDoorAbG5
/- Objects and cells. Under: nothing. -/
namespace Go.Ab

structure Ob where
  kind : Int
  exec : Bool
  n : Int
  name : List UInt8
  ref : Int
  off : Int
  len : Int
  deriving DecidableEq

structure Cl where
  kind : Int
  bytes : List UInt8
  items : List Ob
  keys : List Ob
  vals : List Ob
  max : Int
  at' : Int
  deriving DecidableEq

def encO (o : Ob) : List PV := [.int .i64 o.kind, .bool o.exec, .int .i64 o.n, .str o.name, .int .i64 o.ref, .int .i64 o.off, .int .i64 o.len]
def encC (c : Cl) : List PV := [.int .i64 c.kind, .str c.bytes, .sl 7 (c.items.map encO), .sl 7 (c.keys.map encO), .sl 7 (c.vals.map encO), .int .i64 c.max, .int .i64 c.at']
abbrev aO (o : Ob) : PV := .agg (encO o)
abbrev aC (c : Cl) : PV := .agg (encC c)
abbrev slO (l : List Ob) : PV := .sl 7 (l.map encO)
abbrev slC (l : List Cl) : PV := .sl 7 (l.map encC)
abbrev pI (n : Int) : PV := .int .i64 n

theorem Ob.eta (o : Ob) : (⟨o.kind, o.exec, o.n, o.name, o.ref, o.off, o.len⟩ : Ob) = o := rfl
theorem Cl.eta (o : Cl) : (⟨o.kind, o.bytes, o.items, o.keys, o.vals, o.max, o.at'⟩ : Cl) = o := rfl

end Go.Ab

/- Operations on lists of rows that are images of typed lists. Under: nothing. -/
namespace Go.Ab
theorem quo_at {σ : Store} {nm : Nat} {ev : RA → AV} {x y : RA} {k : IntKind} {a b : Int} (hx : ev x = .pv (.int k a)) (hy : ev y = .pv (.int k b)) (hb : b ≠ 0) : step σ nm ev (.bin .quo x y) = some { v := .pv (.int k (k.wrap (a.tdiv b))) } := by
  simp only [step, hx, hy, binop, if_true, Eff.of]
  rw [if_neg hb]
section
variable {σ : Store} {nm es bytes : Nat} {ev : RA → AV} {α : Type} {f : α → List PV} {l x' : List α} {xs : List (List PV)} {rd : List Nat}
theorem append_fM {s x : RA} (hs : ev s = .fsl es (l.map f)) (hx : prowsOf σ es (ev x) = some (xs, rd)) (hxs : xs = x'.map f) (hb : (l.length + x'.length) * bytes ≤ 2 ^ 40) :
    step σ nm ev (.append es bytes s x) = some { v := .pv (.sl es ((l ++ x').map f)), rd := rd } := by
  subst hxs
  rw [append_f hs hx (by simpa using hb), List.map_append]
theorem append_oM {s x : RA} {b c : Nat} {sl : Bool} (hs : ev s = .own b 0 c) (hf : find σ b = some (.arr es (l.map f) sl)) (hc : l.length = c) (hx : prowsOf σ es (ev x) = some (xs, rd)) (hxs : xs = x'.map f) (hb : (c + x'.length) * bytes ≤ 2 ^ 40) :
    step σ nm ev (.append es bytes s x) = some { v := .own nm 0 (c + x'.length), rd := b :: rd, up := [(b, none), (nm, some (.arr es ((l ++ x').map f) sl))] } := by
  subst hxs
  rw [append_o hs hf (by simpa using hc) hx (by simpa using hb), List.map_append, List.length_map]
theorem pure_rows : ∀ rows : List (List PV), mkObj es (rows.map (·.map .pv)) = .arr es rows false := by
  intro rows
  have row : ∀ r : List PV, pures? (r.map AV.pv) = some r := by
    intro r
    induction r with
    | nil => rfl
    | cons p r ih => simp [pures?, AV.pure?, ih]
  have all : rowsPure? (rows.map (·.map AV.pv)) = some rows := by
    induction rows with
    | nil => rfl
    | cons r rows ih => simp [rowsPure?, row r, ih]
  simp [mkObj, all]
theorem rows_prows {a : AV} {rows : List (List PV)} (h : prowsOf σ es a = some (rows, rd)) : rowsOf σ es a = some (rows.map (·.map .pv), rd) := by
  unfold prowsOf at h
  unfold rowsOf
  split at h
  · cases h; rfl
  · split at h <;> cases h; simp [*]
  · split at h <;> cases h; simp [*]
  · split at h
    · split at h <;> cases h; simp [*]
    · cases h
  · cases h
theorem append_eM {s x : RA} {e : Nat} (hs : (ev s).e = .emp e) (hx : prowsOf σ es (ev x) = some (xs, rd)) (hxs : xs = x'.map f) (hb : x'.length * bytes ≤ 2 ^ 40) :
    step σ nm ev (.append es bytes s x) = some { v := .own nm 0 x'.length, rd := rd, up := [(nm, some (.arr es (x'.map f) false))] } := by
  subst hxs
  rw [append_emp hs (rows_prows hx) (by simpa using hb), pure_rows, List.length_map]
theorem slice_mM {x m : RA} {lo hi : Option RA} {a h k : Int} (hx : ev x = .pv (.sl es (l.map f))) (hl : optIdx ev 0 lo = some a) (hh : optIdx ev ((l.map f).length : Nat) hi = some h) (hm : optIdx ev ((l.map f).length : Nat) (some m) = some k) (h1 : 0 ≤ a) (h2 : a ≤ h) (h3 : h = k) (h4 : k ≤ l.length) :
    step σ nm ev (.slice es x lo hi (some m)) = some { v := .fsl es (((l.take h.toNat).drop a.toNat).map f) } := by
  rw [slice_m hx hl hh hm h1 h2 h3 (by simpa using h4), List.map_drop, List.map_take]
theorem slice_M {x : RA} {lo hi : Option RA} {a h : Int} (hx : ev x = .pv (.sl es (l.map f))) (hl : optIdx ev 0 lo = some a) (hh : optIdx ev ((l.map f).length : Nat) hi = some h) (h1 : 0 ≤ a) (h2 : a ≤ h) (h3 : h ≤ l.length) :
    step σ nm ev (.slice es x lo hi none) = some { v := .pv (.sl es (((l.take h.toNat).drop a.toNat).map f)) } := by
  rw [slice_at hx hl hh h1 h2 (by simpa using h3), List.map_drop, List.map_take]
theorem slice_fM {x : RA} {lo hi : Option RA} {a h : Int} (hx : ev x = .fsl es (l.map f)) (hl : optIdx ev 0 lo = some a) (hh : optIdx ev ((l.map f).length : Nat) hi = some h) (h1 : 0 ≤ a) (h2 : a ≤ h) (h3 : h ≤ l.length) :
    step σ nm ev (.slice es x lo hi none) = some { v := .pv (.sl es (((l.take h.toNat).drop a.toNat).map f)) } := by
  rw [slice_f hx hl hh h1 h2 (by simpa using h3), List.map_drop, List.map_take]
end
end Go.Ab
namespace Go.Ab
end Go.Ab
