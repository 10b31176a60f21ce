/- The abstract layer, part 6: values, steps, their soundness. Under: nothing. -/
import Derived.Test.YtngmifmcohmfmaaDoorAbG5
/- More helps for runs with symbols. Under: nothing. -/
namespace Go.Ab
open Go.RowKit

section
variable {A B : Prop}
end

/-- A part of a slice. -/
theorem slice_at {σ : Store} {nm es : Nat} {ev : RA → AV} {x : RA} {lo hi : Option RA} {rows : List (List PV)} {l h : Int} (hx : ev x = .pv (.sl es rows)) (hl : optIdx ev 0 lo = some l) (hh : optIdx ev rows.length hi = some h) (h1 : 0 ≤ l) (h2 : l ≤ h) (h3 : h ≤ rows.length) :
    step σ nm ev (.slice es x lo hi none) = some { v := .pv (.sl es ((rows.take h.toNat).drop l.toNat)) } := by
  simp only [step, hx, AV.e, if_true, step.sliceP, hl, hh, show optIdx ev (rows.length : Int) none = some (rows.length : Int) from rfl]
  rw [if_pos ⟨h1, h2, h3, Int.le_refl _⟩]
  rfl
theorem slice_f {σ : Store} {nm es : Nat} {ev : RA → AV} {x : RA} {lo hi : Option RA} {rows : List (List PV)} {l h : Int} (hx : ev x = .fsl es rows) (hl : optIdx ev 0 lo = some l) (hh : optIdx ev rows.length hi = some h) (h1 : 0 ≤ l) (h2 : l ≤ h) (h3 : h ≤ rows.length) :
    step σ nm ev (.slice es x lo hi none) = some { v := .pv (.sl es ((rows.take h.toNat).drop l.toNat)) } := by
  simp only [step, hx, AV.e, if_true, step.sliceP, hl, hh, show optIdx ev (rows.length : Int) none = some (rows.length : Int) from rfl]
  rw [if_pos ⟨h1, h2, h3, Int.le_refl _⟩]
  rfl
theorem slice_m {σ : Store} {nm es : Nat} {ev : RA → AV} {x m : RA} {lo hi : Option RA} {rows : List (List PV)} {l h k : Int} (hx : ev x = .pv (.sl es rows)) (hl : optIdx ev 0 lo = some l) (hh : optIdx ev rows.length hi = some h) (hm : optIdx ev rows.length (some m) = some k) (h1 : 0 ≤ l) (h2 : l ≤ h) (h3 : h = k) (h4 : k ≤ rows.length) :
    step σ nm ev (.slice es x lo hi (some m)) = some { v := .fsl es ((rows.take h.toNat).drop l.toNat) } := by
  subst h3
  simp [step, step.sliceP, Eff.of, hx, AV.e, hl, hh, hm, h1, h2, h4]
theorem sslice_lh {σ : Store} {nm : Nat} {ev : RA → AV} {x : RA} {lo hi : Option RA} {s : List UInt8} {l h : Int} (hx : ev x = .pv (.str s)) (hl : optIdx ev 0 lo = some l) (hh : optIdx ev s.length hi = some h) (h1 : 0 ≤ l) (h2 : l ≤ h) (h3 : h ≤ s.length) :
    step σ nm ev (.sslice x lo hi) = some { v := .pv (.str ((s.take h.toNat).drop l.toNat)) } := by
  simp [step, Eff.of, hx, hl, hh, h1, h2, h3]
theorem append_emp {σ : Store} {nm es bytes : Nat} {ev : RA → AV} {s x : RA} {e : Nat} {xs : List (List PV)} {rd : List Nat} (hs : (ev s).e = .emp e) (hr : rowsOf σ es (ev x) = some (xs.map (·.map .pv), rd)) (hb : xs.length * bytes ≤ 2 ^ 40) :
    step σ nm ev (.append es bytes s x) = some { v := .own nm 0 xs.length, rd := rd, up := [(nm, some (mkObj es (xs.map (·.map .pv))))] } := by
  simp only [step, hs, hr, List.length_map]
  rw [if_pos hb]
theorem append_f {σ : Store} {nm es bytes : Nat} {ev : RA → AV} {s x : RA} {rows xs : List (List PV)} {rd : List Nat} (hs : ev s = .fsl es rows) (hx : prowsOf σ es (ev x) = some (xs, rd)) (hb : (rows.length + xs.length) * bytes ≤ 2 ^ 40) :
    step σ nm ev (.append es bytes s x) = some { v := .pv (.sl es (rows ++ xs)), rd := rd } := by
  simp only [step, hs, AV.e, hx]
  rw [if_pos ⟨hb, trivial⟩]
theorem append_o {σ : Store} {nm es bytes c : Nat} {ev : RA → AV} {s x : RA} {b : Nat} {L xs : List (List PV)} {sl : Bool} {rd : List Nat} (hs : ev s = .own b 0 c) (hf : find σ b = some (.arr es L sl)) (hc : L.length = c) (hx : prowsOf σ es (ev x) = some (xs, rd)) (hb : (c + xs.length) * bytes ≤ 2 ^ 40) :
    step σ nm ev (.append es bytes s x) = some { v := .own nm 0 (c + xs.length), rd := b :: rd, up := [(b, none), (nm, some (.arr es (L ++ xs) sl))] } := by
  simp only [step, hs, AV.e, hf, hc, and_self, if_true, hx]
  rw [if_pos hb]
theorem iaddr_o {σ : Store} {nm es c i0 : Nat} {ev : RA → AV} {x i : RA} {b : Nat} {rows : List (List PV)} {sl : Bool} {j : Int} (hx : ev x = .own b i0 c) (hi : ev i = .pv (.int .i64 j)) (hf : find σ b = some (.arr es rows sl)) (h0 : 0 ≤ j) (h1 : j < c) :
    step σ nm ev (.iaddr es x i) = some { v := .ptr b (i0 + j.toNat) 0, rd := [b] } := by
  simp [step, hx, hi, idxOf, hf, h0, h1, SObj.es]
theorem mksl_at {σ : Store} {nm es bytes : Nat} {zero : List PV} {ev : RA → AV} {n : RA} {k : Int} (hn : ev n = .pv (.int .i64 k)) (h0 : 0 ≤ k) (h1 : k * bytes ≤ 2 ^ 40) (hz : zero.length = es) (hb : 0 < bytes) :
    step σ nm ev (.mksl es bytes zero n) = some { v := .own nm 0 k.toNat, up := [(nm, some (.arr es (List.replicate k.toNat zero) false))] } := by
  simp only [step, hn, idxOf]
  rw [if_pos ⟨h0, h1, hz, hb⟩]
theorem copy_at {σ : Store} {nm es : Nat} {ev : RA → AV} {d s : RA} {b i n : Nat} {rows xs : List (List PV)} {rd : List Nat} (hd : ev d = .own b i n) (hf : find σ b = some (.arr es rows false)) (hs : prowsOf σ es (ev s) = some (xs, rd)) (hn : i + n ≤ rows.length) :
    step σ nm ev (.copy es d s) = some { v := .pv (.int .i64 (min xs.length n : Nat)), rd := b :: rd, up := [(b, some (.arr es (rows.take i ++ xs.take (min xs.length n) ++ rows.drop (i + min xs.length n)) false))] } := by
  simp only [step, hd, hf, if_true, hs]
  rw [if_pos hn]
theorem store_at {σ : Store} {nm n es : Nat} {ev : RA → AV} {a v : RA} {b i j : Nat} {rows : List (List PV)} {row ps : List PV} (ha : ev a = .ptr b i j) (hf : find σ b = some (.arr es rows false)) (hr : rows[i]? = some row) (hp : pures? (ev v).cells = some ps) (hn : (ev v).cells.length = n) (hj : j + n ≤ row.length) (hc : allCells (ev v).cells = true) :
    step σ nm ev (.store n a v) = some { v := .undef, rd := [b], up := [(b, some (.arr es (rows.set i (row.take j ++ ps ++ row.drop (j + ps.length))) false))] } := by
  simp only [step, ha, hf, hr, hp]
  rw [if_pos ⟨hn, hj, hc⟩]
theorem prows_own {σ : Store} {es b i n : Nat} {a : AV} {rows : List (List PV)} {sl : Bool} (ha : a = .own b i n) (hf : find σ b = some (.arr es rows sl)) : prowsOf σ es a = some ((rows.drop i).take n, [b]) := by
  subst ha; simp [prowsOf, AV.e, hf]
theorem prows_pv {σ : Store} {es : Nat} {rows : List (List PV)} : prowsOf σ es (.pv (.sl es rows)) = some (rows, []) := by simp [prowsOf, AV.e]
theorem prows_fsl {σ : Store} {es : Nat} {rows : List (List PV)} : prowsOf σ es (.fsl es rows) = some (rows, []) := by simp [prowsOf, AV.e]
/-! ### Loops -/

/-- The state of a round stands for another one: the same, once normed. -/
def SameS (live : List Nat) (s s' : St) : Prop := normK live s' fun n' => normK live s fun n => n = n'

theorem loopGo {X : St → Prop} {live : List Nat} {F : St → Prop} (hX : ∀ s, normK live s F → X s) {s s' : St} (h : SameS live s s') (g : normK live s' F) : X s := by
  refine hX s ?_
  simp only [SameS, normK_eq] at h g ⊢
  rw [h]; exact g

theorem SameS.rfl {live : List Nat} {s : St} : SameS live s s := by simp only [SameS, normK_eq]

/-- A state with other temporaries and blocks. -/
def updT : T → List (Nat × AV) → T
  | t, [] => t
  | t, (n, v) :: l => updT (t.set tdepth n v) l
def updS : Store → List (Nat × SObj) → Store
  | s, [] => s
  | s, (b, x) :: l => updS (upS s b (some x)) l
def St.upd (s : St) (ts : List (Nat × AV)) (bs : List (Nat × SObj)) : St := ⟨updT s.tm ts, updS s.σ bs, s.nx, s.nt⟩

end Go.Ab
namespace Go.Ab
section
variable {A A' C : Prop} {b : Bool}
theorem stuckG1 (hT : b = true → A) (hF : b = false → C) : (match (generalizing := false) b, true with | true, true => A | false, false => A' | _, _ => C) := by
  cases b with
  | true => exact hT rfl
  | false => exact hF rfl
theorem stuckG0 (hT : b = true → C) (hF : b = false → A') : (match (generalizing := false) b, false with | true, true => A | false, false => A' | _, _ => C) := by
  cases b with
  | true => exact hT rfl
  | false => exact hF rfl
end
end Go.Ab
namespace Go.Ab
theorem pickT {σ : Store} {nm : Nat} {ev : RA → AV} {c x y : RA} {b : Bool} (hc : ev c = .pv (.bool b)) (h : b = true) : step σ nm ev (.pick c x y) = some { v := ev x } := by
  subst h; simp [step, hc, Eff.of]
theorem pickF {σ : Store} {nm : Nat} {ev : RA → AV} {c x y : RA} {b : Bool} (hc : ev c = .pv (.bool b)) (h : b = false) : step σ nm ev (.pick c x y) = some { v := ev y } := by
  subst h; simp [step, hc, Eff.of]
end Go.Ab
namespace Go.Ab
theorem stuckPk {σ : Store} {nm : Nat} {ev : RA → AV} {c x y : RA} {b : Bool} {K : Eff → Prop} (hc : ev c = .pv (.bool b)) (hT : b = true → K { v := ev x }) (hF : b = false → K { v := ev y }) :
    (match (generalizing := false) step σ nm ev (.pick c x y) with | some e => K e | none => False) := by
  cases b with
  | true => exact stuckStep (pickT hc rfl) (hT rfl)
  | false => exact stuckStep (pickF hc rfl) (hF rfl)
end Go.Ab
namespace Go.Ab
section
variable {A A' B C : Prop} {b : Bool}
theorem sB (h : (b = true ∧ A) ∨ (b = false ∧ B) ∨ ((b = true → A) ∧ (b = false → B))) : upS.match_1 (fun _ => Prop) b (fun _ => A) (fun _ => B) := by
  rcases h with ⟨rfl, h⟩ | ⟨rfl, h⟩ | ⟨h1, h2⟩
  · exact h
  · exact h
  · cases b with
    | true => exact h1 rfl
    | false => exact h2 rfl
theorem sC {recs : List Rec} (h : compat [] recs = true) (hT : A) : upS.match_1 (fun _ => Prop) (compat [] recs) (fun _ => A) (fun _ => B) := by rw [h]; exact hT
theorem sG1 (h : (b = true ∧ A) ∨ (b = false ∧ C) ∨ ((b = true → A) ∧ (b = false → C))) : insW.match_1 (fun _ _ => Prop) b true (fun _ => A) (fun _ => A') (fun _ _ => C) := by
  rcases h with ⟨rfl, h⟩ | ⟨rfl, h⟩ | ⟨h1, h2⟩
  · exact h
  · exact h
  · exact stuckG1 h1 h2
theorem sG0 (h : (b = true ∧ C) ∨ (b = false ∧ A') ∨ ((b = true → C) ∧ (b = false → A'))) : insW.match_1 (fun _ _ => Prop) b false (fun _ => A) (fun _ => A') (fun _ _ => C) := by
  rcases h with ⟨rfl, h⟩ | ⟨rfl, h⟩ | ⟨h1, h2⟩
  · exact h
  · exact h
  · exact stuckG0 h1 h2
theorem sS {o : Option Eff} {e : Eff} {K : Eff → Prop} (h : o = some e) (hK : K e) : opW.match_5 (fun _ => Prop) o (fun e => K e) (fun _ => False) := by subst h; exact hK
theorem sP {σ : Store} {nm : Nat} {ev : RA → AV} {c x y : RA} {K : Eff → Prop} (hc : ev c = .pv (.bool b)) (h : (b = true ∧ K { v := ev x }) ∨ (b = false ∧ K { v := ev y }) ∨ ((b = true → K { v := ev x }) ∧ (b = false → K { v := ev y }))) :
    opW.match_5 (fun _ => Prop) (step σ nm ev (.pick c x y)) (fun e => K e) (fun _ => False) := by
  rcases h with ⟨h0, h⟩ | ⟨h0, h⟩ | ⟨h1, h2⟩
  · exact sS (pickT hc h0) h
  · exact sS (pickF hc h0) h
  · exact stuckPk hc h1 h2
end
end Go.Ab
namespace Go.Ab
theorem loopI {X : St → Prop} {live : List Nat} {F : St → Prop} (hX : ∀ s, normK live s F → X s) {st : St} {α : Sort _} (sh : St → α → St) (I : α → Nat → Prop) (a : α) (m : Nat) (h : SameS live st (sh st a)) (hI : I a m)
    (key : ∀ (m : Nat) (a : α), (∀ (m' : Nat) (a' : α) (s' : St), m' < m → I a' m' → SameS live s' (sh st a') → X s') → I a m → normK live (sh st a) F) : X st := by
  have all : ∀ (n m : Nat), m < n → ∀ (a : α) (s : St), I a m → SameS live s (sh st a) → X s := by
    intro n
    induction n with
    | zero => intro m hm; omega
    | succ n ihn => intro m hm a s hI hs; exact loopGo hX hs (key m a (fun m' a' s' hm' => ihn m' (by omega) a' s') hI)
  exact all (m + 1) m (by omega) a st hI h
theorem wrap_succ {i : Nat} (h : i < 2 ^ 62) : IntKind.i64.wrap ((i : Int) + 1) = ((i + 1 : Nat) : Int) := by rw [wrap_small (by omega) (by omega)]; omega
theorem row_map {α : Type} {f : α → List PV} {l : List α} {i : Nat} {x : α} (h : l[i]? = some x) : (l.map f)[((i : Nat) : Int).toNat]? = some (f x) := by simp [h]
theorem drop_at {α : Type} {l : List α} {i : Nat} {x : α} (h : l[i]? = some x) : l.drop i = x :: l.drop (i + 1) := by
  obtain ⟨hi, he⟩ := List.getElem?_eq_some_iff.1 h
  rw [List.drop_eq_getElem_cons hi, he]
theorem at_or {α : Type} (l : List α) (i : Nat) : (∃ x, i < l.length ∧ l[i]? = some x) ∨ l.length ≤ i := by
  rcases Nat.lt_or_ge i l.length with h | h
  · exact .inl ⟨_, h, List.getElem?_eq_getElem h⟩
  · exact .inr h
end Go.Ab
namespace Go.Ab
theorem store_rowS {σ : Store} {nm n es : Nat} {ev : RA → AV} {a v : RA} {b i : Nat} {rows : List (List PV)} {ps : List PV} (ha : ev a = .ptr b i 0) (hf : find σ b = some (.arr es rows false)) (hi : i < rows.length) (hw : ∀ r ∈ rows, r.length = n) (hp : pures? (ev v).cells = some ps) (hn : (ev v).cells.length = n) (hl : ps.length = n) (hc : allCells (ev v).cells = true) :
    step σ nm ev (.store n a v) = some { v := .undef, rd := [b], up := [(b, some (.arr es (rows.set i ps) false))] } := by
  have hr : rows[i]? = some rows[i] := List.getElem?_eq_getElem hi
  have hl' : rows[i].length = n := hw _ (List.getElem_mem hi)
  rw [store_at ha hf hr hp hn (by omega) hc]
  have : List.drop (0 + ps.length) rows[i] = [] := List.drop_eq_nil_of_le (by omega)
  simp only [List.take_zero, List.nil_append, this, List.append_nil]
end Go.Ab

/- Objects and cells. Under: nothing. -/
namespace Go.Ab

structure Ob where
  kind : Int
  exec : Bool
  n : Int
  name : List UInt8
  ref : Int
  off : Int
  len : Int
  deriving DecidableEq

structure Cl where
  kind : Int
  bytes : List UInt8
  items : List Ob
  keys : List Ob
  vals : List Ob
  max : Int
  at' : Int
  deriving DecidableEq

def encO (o : Ob) : List PV := [.int .i64 o.kind, .bool o.exec, .int .i64 o.n, .str o.name, .int .i64 o.ref, .int .i64 o.off, .int .i64 o.len]
def encC (c : Cl) : List PV := [.int .i64 c.kind, .str c.bytes, .sl 7 (c.items.map encO), .sl 7 (c.keys.map encO), .sl 7 (c.vals.map encO), .int .i64 c.max, .int .i64 c.at']
abbrev aO (o : Ob) : PV := .agg (encO o)
abbrev aC (c : Cl) : PV := .agg (encC c)
abbrev slO (l : List Ob) : PV := .sl 7 (l.map encO)
abbrev pI (n : Int) : PV := .int .i64 n

theorem Ob.eta (o : Ob) : (⟨o.kind, o.exec, o.n, o.name, o.ref, o.off, o.len⟩ : Ob) = o := rfl
theorem Cl.eta (o : Cl) : (⟨o.kind, o.bytes, o.items, o.keys, o.vals, o.max, o.at'⟩ : Cl) = o := rfl

end Go.Ab

/- Operations on lists of rows that are images of typed lists. Under: nothing. -/
namespace Go.Ab
/-- A list with some elements replaced. -/
def repl {α : Type} (l : List α) (i : Nat) (x : List α) : List α := l.take i ++ x ++ l.drop (i + x.length)
theorem quo_at {σ : Store} {nm : Nat} {ev : RA → AV} {x y : RA} {k : IntKind} {a b : Int} (hx : ev x = .pv (.int k a)) (hy : ev y = .pv (.int k b)) (hb : b ≠ 0) : step σ nm ev (.bin .quo x y) = some { v := .pv (.int k (k.wrap (a.tdiv b))) } := by
  simp only [step, hx, hy, binop, if_true, Eff.of]
  rw [if_neg hb]
section
variable {σ : Store} {nm es bytes : Nat} {ev : RA → AV} {α : Type} {f : α → List PV} {l x' : List α} {xs : List (List PV)} {rd : List Nat}
theorem append_fM {s x : RA} (hs : ev s = .fsl es (l.map f)) (hx : prowsOf σ es (ev x) = some (xs, rd)) (hxs : xs = x'.map f) (hb : (l.length + x'.length) * bytes ≤ 2 ^ 40) :
    step σ nm ev (.append es bytes s x) = some { v := .pv (.sl es ((l ++ x').map f)), rd := rd } := by
  subst hxs
  rw [append_f hs hx (by simpa using hb), List.map_append]
theorem append_oM {s x : RA} {b c : Nat} {sl : Bool} (hs : ev s = .own b 0 c) (hf : find σ b = some (.arr es (l.map f) sl)) (hc : l.length = c) (hx : prowsOf σ es (ev x) = some (xs, rd)) (hxs : xs = x'.map f) (hb : (c + x'.length) * bytes ≤ 2 ^ 40) :
    step σ nm ev (.append es bytes s x) = some { v := .own nm 0 (c + x'.length), rd := b :: rd, up := [(b, none), (nm, some (.arr es ((l ++ x').map f) sl))] } := by
  subst hxs
  rw [append_o hs hf (by simpa using hc) hx (by simpa using hb), List.map_append, List.length_map]
theorem pure_rows : ∀ rows : List (List PV), mkObj es (rows.map (·.map .pv)) = .arr es rows false := by
  intro rows
  have row : ∀ r : List PV, pures? (r.map AV.pv) = some r := by
    intro r
    induction r with
    | nil => rfl
    | cons p r ih => simp [pures?, AV.pure?, ih]
  have all : rowsPure? (rows.map (·.map AV.pv)) = some rows := by
    induction rows with
    | nil => rfl
    | cons r rows ih => simp [rowsPure?, row r, ih]
  simp [mkObj, all]
theorem rows_prows {a : AV} {rows : List (List PV)} (h : prowsOf σ es a = some (rows, rd)) : rowsOf σ es a = some (rows.map (·.map .pv), rd) := by
  unfold prowsOf at h
  unfold rowsOf
  split at h
  · cases h; rfl
  · split at h <;> cases h; simp [*]
  · split at h <;> cases h; simp [*]
  · split at h
    · split at h <;> cases h; simp [*]
    · cases h
  · cases h
theorem append_eM {s x : RA} {e : Nat} (hs : (ev s).e = .emp e) (hx : prowsOf σ es (ev x) = some (xs, rd)) (hxs : xs = x'.map f) (hb : x'.length * bytes ≤ 2 ^ 40) :
    step σ nm ev (.append es bytes s x) = some { v := .own nm 0 x'.length, rd := rd, up := [(nm, some (.arr es (x'.map f) false))] } := by
  subst hxs
  rw [append_emp hs (rows_prows hx) (by simpa using hb), pure_rows, List.length_map]
theorem slice_mM {x m : RA} {lo hi : Option RA} {a h k : Int} (hx : ev x = .pv (.sl es (l.map f))) (hl : optIdx ev 0 lo = some a) (hh : optIdx ev ((l.map f).length : Nat) hi = some h) (hm : optIdx ev ((l.map f).length : Nat) (some m) = some k) (h1 : 0 ≤ a) (h2 : a ≤ h) (h3 : h = k) (h4 : k ≤ l.length) :
    step σ nm ev (.slice es x lo hi (some m)) = some { v := .fsl es (((l.take h.toNat).drop a.toNat).map f) } := by
  rw [slice_m hx hl hh hm h1 h2 h3 (by simpa using h4), List.map_drop, List.map_take]
theorem slice_M {x : RA} {lo hi : Option RA} {a h : Int} (hx : ev x = .pv (.sl es (l.map f))) (hl : optIdx ev 0 lo = some a) (hh : optIdx ev ((l.map f).length : Nat) hi = some h) (h1 : 0 ≤ a) (h2 : a ≤ h) (h3 : h ≤ l.length) :
    step σ nm ev (.slice es x lo hi none) = some { v := .pv (.sl es (((l.take h.toNat).drop a.toNat).map f)) } := by
  rw [slice_at hx hl hh h1 h2 (by simpa using h3), List.map_drop, List.map_take]
theorem slice_fM {x : RA} {lo hi : Option RA} {a h : Int} (hx : ev x = .fsl es (l.map f)) (hl : optIdx ev 0 lo = some a) (hh : optIdx ev ((l.map f).length : Nat) hi = some h) (h1 : 0 ≤ a) (h2 : a ≤ h) (h3 : h ≤ l.length) :
    step σ nm ev (.slice es x lo hi none) = some { v := .pv (.sl es (((l.take h.toNat).drop a.toNat).map f)) } := by
  rw [slice_f hx hl hh h1 h2 (by simpa using h3), List.map_drop, List.map_take]
/-- A whole block is overwritten. -/
theorem copy_M {d s : RA} {b n : Nat} {rows : List (List PV)} (hd : ev d = .own b 0 n) (hf : find σ b = some (.arr es rows false)) (hs : prowsOf σ es (ev s) = some (l.map f, rd)) (hn : rows.length = n) (hl : l.length = n) :
    step σ nm ev (.copy es d s) = some { v := .pv (.int .i64 ((l.length : Nat) : Int)), rd := b :: rd, up := [(b, some (.arr es (l.map f) false))] } := by
  rw [copy_at hd hf hs (by omega)]
  have e : min (l.map f).length n = l.length := by simp; omega
  rw [e]
  have e2 : List.drop (0 + l.length) rows = [] := List.drop_eq_nil_of_le (by omega)
  have e3 : List.take l.length (l.map f) = l.map f := List.take_of_length_le (by simp)
  simp only [List.take_zero, List.nil_append, e2, e3, List.append_nil]
/-- A part of a block is overwritten. -/
theorem copy_P {d s : RA} {b i n : Nat} (hd : ev d = .own b i n) (hf : find σ b = some (.arr es (l.map f) false)) (hs : prowsOf σ es (ev s) = some (x'.map f, rd)) (hn : i + n ≤ l.length) (hl : x'.length ≤ n) :
    step σ nm ev (.copy es d s) = some { v := .pv (.int .i64 ((x'.length : Nat) : Int)), rd := b :: rd, up := [(b, some (.arr es ((repl l i x').map f) false))] } := by
  rw [copy_at hd hf hs (by simpa using hn)]
  have e : min (x'.map f).length n = x'.length := by simp; omega
  rw [e]
  have e3 : List.take x'.length (x'.map f) = x'.map f := List.take_of_length_le (by simp)
  rw [e3]
  simp only [repl, List.map_append, List.map_take, List.map_drop]
/-- One row of a block is stored. -/
theorem store_M {a v : RA} {b i n : Nat} {c : α} (ha : ev a = .ptr b i 0) (hf : find σ b = some (.arr es (l.map f) false)) (hi : i < l.length) (hw : ∀ y : α, (f y).length = n) (hp : pures? (ev v).cells = some (f c)) (hn : (ev v).cells.length = n) (hc : allCells (ev v).cells = true) :
    step σ nm ev (.store n a v) = some { v := .undef, rd := [b], up := [(b, some (.arr es ((l.set i c).map f) false))] } := by
  rw [store_rowS ha hf (by simpa using hi) (by intro r hr; obtain ⟨y, _, rfl⟩ := List.mem_map.1 hr; exact hw y) hp hn (hw c) hc, List.map_set]
theorem slice_oM {x : RA} {lo : Option RA} {b i n : Nat} {o : SObj} {a : Int} (hx : ev x = .own b i n) (hf : find σ b = some o) (hl : optIdx ev 0 lo = some a) (h1 : 0 ≤ a) (h2 : a ≤ n) (h3 : i + n ≤ o.len) (he : o.es = es) :
    step σ nm ev (.slice es x lo none none) = some { v := .own b (i + a.toNat) (n - a.toNat), rd := [b] } := by
  have e : ((n : Int) - a).toNat = n - a.toNat := by omega
  simp only [step, hx, AV.e, hf, hl, show optIdx ev (n : Int) none = some (n : Int) from rfl, show optIdx ev ((o.len : Int) - i) none = some ((o.len : Int) - i) from rfl]
  rw [if_pos ⟨h1, h2, by omega, .inl rfl, he, .inl rfl⟩, e]
end
end Go.Ab
namespace Go.Ab
end Go.Ab

/- Slices cut at the smaller of a number and their length. Under: nothing. -/
namespace Go.Ab
section
variable {σ : Store} {nm es : Nat} {ev : RA → AV} {α : Type} {f : α → List PV} {l : List α}
theorem sslice_min {x r : RA} {k : Int} {s : List UInt8} (hx : ev x = .pv (.str s)) (hh : optIdx ev (s.length : Nat) (some r) = some (if false = true then (if k > (s.length : Int) then k else (s.length : Int)) else (if k < (s.length : Int) then k else (s.length : Int)))) (hk : 0 ≤ k) :
    step σ nm ev (.sslice x none (some r)) = some { v := .pv (.str (s.take k.toNat)) } := by
  rw [if_neg (by decide)] at hh
  rw [sslice_lh (l := 0) hx rfl hh (by decide) (by split <;> omega) (by split <;> omega)]
  congr 3
  rw [show ((0 : Int).toNat) = 0 from rfl, List.drop_zero]
  split
  · rfl
  · rename_i h
    rw [Int.toNat_natCast, List.take_length, List.take_of_length_le (by omega)]
end
end Go.Ab
namespace Go.Ab
section
variable {σ : Store} {nm : Nat} {ev : RA → AV}
end
end Go.Ab

/- Loops of functions that run on their callers' stores, with symbols. Under: nothing. -/
namespace Go.Ab
/-- normN, forced. -/
def normNK {α : Sort _} (n0 : Nat) (live : List Nat) (st : St) (K : St → α) : α :=
  match st with
  | ⟨tm, σ, nx, nt⟩ => forceNs (lowNs n0 live ⟨tm, σ, nx, nt⟩) fun ns => normTK (fun b => idxIn ns b 0) tm (live ++ [markT]) .nil fun tm' => normSK (fun b => idxIn ns b 0) σ ns 0 fun σ' => forceN ns.length fun nx' => K ⟨tm', σ', nx', nt⟩
theorem normNK_eq {α : Sort _} (n0 : Nat) (live : List Nat) (st : St) (K : St → α) : normNK n0 live st K = K (normN n0 live st) := by
  obtain ⟨tm, σ, nx, nt⟩ := st
  simp only [normNK, forceNs_eq, normTK_eq, normSK_eq, forceN_eq]
  rfl
def SameN (n0 : Nat) (live : List Nat) (s s' : St) : Prop := normNK n0 live s' fun n' => normNK n0 live s fun n => n = n'
theorem loopN {X : St → Prop} {live : List Nat} {n0 : Nat} {F : St → Prop} (hX : ∀ s, F s → X s) (hW : ∀ s s', Wk (some (n0, live)) s s' → X s' → X s) {st : St} {α : Sort _} (sh : St → α → St) (I : α → Nat → Prop) (a : α) (m : Nat) (h : SameN n0 live st (sh st a)) (hI : I a m)
    (key : ∀ (m : Nat) (a : α), (∀ (m' : Nat) (a' : α) (s' : St), m' < m → I a' m' → SameN n0 live s' (sh st a') → X s') → I a m → normNK n0 live (sh st a) F) : X st := by
  have all : ∀ (n m : Nat), m < n → ∀ (a : α) (s : St), I a m → SameN n0 live s (sh st a) → X s := by
    intro n
    induction n with
    | zero => intro m hm; omega
    | succ n ihn =>
      intro m hm a s hI hs
      have g := key m a (fun m' a' s' hm' => ihn m' (by omega) a' s') hI
      refine hW s _ (.nrm n0 live rfl) (hX _ ?_)
      simp only [SameN, normNK_eq] at hs g ⊢
      rw [hs]; exact g
  exact all (m + 1) m (by omega) a st hI h
section
variable {σ : Store} {nm : Nat} {ev : RA → AV}
theorem index3_false {i : Nat} {a b c y : PV} {x r : RA} (hy : [a, b, c][i]? = some y) (hx : (ev x).cells = [.pv a, .pv b, .pv c]) (hg : (ev x).isAggV = true) (hi : ev r = .pv (.int .i64 (i : Int))) :
    step σ nm ev (.index false 3 1 x r) = some { v := .pv y } := by
  have hlt : i < 3 := (List.getElem?_eq_some_iff.1 hy).1
  have hl : (ev x).cells.length = 3 * 1 := by rw [hx]; rfl
  simp only [step, hi, idxOf, hg, hl]
  rw [if_pos (by refine ⟨by omega, by show ((i : Nat) : Int) < ((3 : Nat) : Int); omega, ?_, ?_⟩ <;> first | trivial | rfl | assumption), hx]
  match i, hlt with
  | 0, _ => cases hy; rfl
  | 1, _ => cases hy; rfl
  | 2, _ => cases hy; rfl
end
end Go.Ab
