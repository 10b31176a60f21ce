/- The check of the own code against the model's, and one operation's soundness: those that touch no memory. Under: nothing. -/
import Derived.Test.YthpnccneaaeomaaAb5
namespace Go.Ab
open Go.RowKit

def chkV0 : Value → AV → Bool
  | .bool a, .pv (.bool b) => a == b
  | .int k a, .pv (.int k' b) => decide (k = k') && a == b
  | .string s, .pv (.str l) => s.data.toList == l
  | .slice none 0 0, .emp _ => true
  | .slice none 0 0, .pv (.sl _ []) => true
  | .nilFunc, .pv .nilFunc => true
  | .func (.func f) xs ys, .func (.func g) [] [] => f == g && xs.size == 0 && ys.size == 0
  | _, _ => false

def chkVs : List Value → List AV → Bool
  | [], [] => true
  | v :: l, a :: m => chkV0 v a && chkVs l m
  | _, _ => false

def chkV : Value → AV → Bool
  | .agg cs, .agg l => chkVs cs.toList l
  | v, a => chkV0 v a

def chkA : Operand → RA → Bool
  | .tmp t, .t u => t == u && decide (t < 1024)
  | .const v, .c a => chkV v a
  | .func f, .f g => f == g
  | .global g, .g i => g == i
  | _, _ => false

def chkAs : List Operand → List RA → Bool
  | [], [] => true
  | o :: l, r :: m => chkA o r && chkAs l m
  | _, _ => false

def chkO : Option Operand → Option RA → Bool
  | none, none => true
  | some o, some r => chkA o r
  | _, _ => false

def chkSize (P : Program) (t n : Nat) : Bool := match P.info? t with | some i => i.size == n | none => false
def chkAgg (P : Program) (t : Nat) (agg : Bool) : Bool := match P.underlying t with
  | some (.struct _) => agg
  | some (.array _ _) => agg
  | some _ => !agg
  | none => false
def chkZero (P : Program) (t : Nat) (zs : List AV) : Bool := match P.info? t with
  | some i => (match i.zero with | some z => chkVs z.cells.toList zs | none => false)
  | none => false

section
variable {P : Program} {w : World} {I : Imm} {ι : Nat → Option Nat} {σ : Store} {D : Nat → Prop}

theorem bytes_eq {s : ByteArray} {l : List UInt8} (h : s.data.toList = l) : s = ⟨l.toArray⟩ := by
  obtain ⟨d⟩ := s; subst h; simp

theorem RepP.str' {s : ByteArray} {l : List UInt8} (h : s.data.toList = l) : RepP w I (.string s) (.str l) := h ▸ .str s

theorem chkV0_rep {v : Value} {a : AV} (h : chkV0 v a = true) : RepA w I ι σ D v a := by
  unfold chkV0 at h
  split at h
  · simp at h; subst h; exact .pv (.bool _)
  · simp at h; obtain ⟨rfl, rfl⟩ := h; exact .pv (.int _ _)
  · simp at h; exact .pv (.str' h)
  · exact .emp _
  · exact .pv (.sl (fun _ _ => default) rfl (Nat.le_refl _) (fun i row h => by simp at h) (fun h => absurd rfl h) (fun i j row q h => by simp at h))
  · exact .pv .nilFunc
  · rename_i f xs ys g
    simp at h
    obtain ⟨⟨rfl, hx⟩, hy⟩ := h
    subst hx; subst hy
    exact .func rfl rfl (fun j x q _ hq => by simp at hq) (fun j x q _ hq => by simp at hq)
  · cases h

theorem chkVs_rep : ∀ {l : List Value} {m : List AV}, chkVs l m = true → l.length = m.length ∧ ∀ (j : Nat) (x : Value) (q : AV), l[j]? = some x → m[j]? = some q → RepA w I ι σ D x q
  | [], [], _ => ⟨rfl, fun j x q hx => by simp at hx⟩
  | v :: l, a :: m, h => by
    simp only [chkVs, Bool.and_eq_true] at h
    obtain ⟨h1, h2⟩ := h
    obtain ⟨e, hr⟩ := chkVs_rep h2
    refine ⟨by simp [e], fun j x q hx hq => ?_⟩
    cases j with
    | zero => simp at hx hq; subst hx; subst hq; exact chkV0_rep h1
    | succ j => simp at hx hq; exact hr j x q hx hq
  | [], _ :: _, h => by simp [chkVs] at h
  | _ :: _, [], h => by simp [chkVs] at h

theorem chkV_rep {v : Value} {a : AV} (h : chkV v a = true) : RepA w I ι σ D v a := by
  unfold chkV at h
  split at h
  · obtain ⟨e, hr⟩ := chkVs_rep h
    exact .agg (by simpa using e) fun j x q hx hq => hr j x q (by simpa using hx) hq
  · exact chkV0_rep h

theorem run_sizeOf' {t n : Nat} (h : chkSize P t n = true) (w : World) : (sizeOf t).run P w = .ok n w := by
  unfold chkSize at h
  split at h
  · rename_i i hi
    simp at h
    simp [sizeOf, typeInfo, hi, h]
  · cases h

theorem run_isAgg' {t : Nat} {g : Bool} (h : chkAgg P t g = true) (w : World) : (isAgg t).run P w = .ok g w := by
  unfold chkAgg at h
  split at h <;> simp_all [isAgg, underlying]

theorem run_under {t : TypeId} {d : TypeDesc} (h : P.underlying t = some d) (w : World) : (underlying t).run P w = .ok d w := by
  simp [underlying, h]

theorem run_zero' {t : Nat} {zs : List AV} (h : chkZero P t zs = true) (w : World) : ∃ z, (zeroValue t).run P w = .ok z w ∧ chkVs z.cells.toList zs = true := by
  unfold chkZero at h
  split at h
  · rename_i i hi
    split at h
    · rename_i z hz
      exact ⟨z, by simp [zeroValue, typeInfo, hi, hz], h⟩
    · cases h
  · cases h
end

theorem inv_int {w : World} {I : Imm} {ι : Nat → Option Nat} {σ : Store} {D : Nat → Prop} {v : Value} {k : IntKind} {n : Int} (h : RepA w I ι σ D v (.pv (.int k n))) : v = .int k n := by
  cases h with | pv h => cases h; rfl
theorem inv_bool {w : World} {I : Imm} {ι : Nat → Option Nat} {σ : Store} {D : Nat → Prop} {v : Value} {b : Bool} (h : RepA w I ι σ D v (.pv (.bool b))) : v = .bool b := by
  cases h with | pv h => cases h; rfl
theorem inv_str {w : World} {I : Imm} {ι : Nat → Option Nat} {σ : Store} {D : Nat → Prop} {v : Value} {l : List UInt8} (h : RepA w I ι σ D v (.pv (.str l))) : v = .string ⟨l.toArray⟩ := by
  cases h with | pv h => cases h; exact congrArg Value.string (bytes_eq rfl)

/-- What stays true from one operation to the next. -/
structure Core (B : Nat) (w0 : World) (I0 : Imm) (w : World) (I : Imm) (ι : Nat → Option Nat) (σ : Store) (D : Nat → Prop) : Prop where
  sims : SimS B w I ι σ D
  below : Below B w0 w
  hB : B ≤ w0.heap.size
  ext : ∀ r k, I0 r k → I r k
  old : ∀ r k, r < B → I r k → I0 r k

/-- What one operation has done. -/
def StepTo (B : Nat) (w0 : World) (I0 : Imm) (w : World) (I : Imm) (ι : Nat → Option Nat) (σ : Store) (D : Nat → Prop) (nm : Nat) (av : AV) (v : Value) (w' : World) (σ' : Store) : Prop :=
  ∃ I' ι' D', Core B w0 I0 w' I' ι' σ' D' ∧ Later w I ι σ D w' I' ι' σ' D' ∧ RepA w' I' ι' σ' D' v av ∧ ∀ b, D' b → D b ∨ (nm ≤ b ∧ b < nm + stride)

def Good (P : Program) (B : Nat) (w0 : World) (I0 : Imm) (w : World) (I : Imm) (ι : Nat → Option Nat) (σ : Store) (D : Nat → Prop) (nm : Nat) (e : Eff) (s : Sem Next) : Prop :=
  ∃ nx v w', s.run P w = .ok nx w' ∧ (nx = .value v ∨ (nx = .skip ∧ v = undef)) ∧ StepTo B w0 I0 w I ι σ D nm e.v v w' (upAll σ e.up)

section
variable {P : Program} {B : Nat} {w0 : World} {I0 : Imm} {w : World} {I : Imm} {ι : Nat → Option Nat} {σ : Store} {D : Nat → Prop} {nm : Nat} {ρ : Operand → Value} {ev : RA → AV}

theorem StepTo.same {av : AV} {v : Value} (hc : Core B w0 I0 w I ι σ D) (h : RepA w I ι σ D v av) : StepTo B w0 I0 w I ι σ D nm av v w σ :=
  ⟨I, ι, D, hc, Later.refl, h, fun _ h => .inl h⟩

theorem good_same {e : Eff} {s : Sem Next} {v : Value} (hc : Core B w0 I0 w I ι σ D) (hr : s.run P w = .ok (.value v) w) (hu : e.up = []) (h : RepA w I ι σ D v e.v) :
    Good P B w0 I0 w I ι σ D nm e s :=
  ⟨_, v, w, hr, .inl rfl, by rw [hu]; exact StepTo.same hc h⟩

variable (hev : ∀ o r, chkA o r = true → RepA w I ι σ D (ρ o) (ev r))
include hev

theorem chkAs_rep : ∀ {l : List Operand} {m : List RA}, chkAs l m = true → l.length = m.length ∧ ∀ (j : Nat) (x : Operand) (q : RA), l[j]? = some x → m[j]? = some q → RepA w I ι σ D (ρ x) (ev q)
  | [], [], _ => ⟨rfl, fun j x q hx => by simp at hx⟩
  | v :: l, a :: m, h => by
    simp only [chkAs, Bool.and_eq_true] at h
    obtain ⟨h1, h2⟩ := h
    obtain ⟨e, hr⟩ := chkAs_rep h2
    refine ⟨by simp [e], fun j x q hx hq => ?_⟩
    cases j with
    | zero => simp at hx hq; subst hx; subst hq; exact hev _ _ h1
    | succ j => simp at hx hq; exact hr j x q hx hq
  | [], _ :: _, h => by simp [chkAs] at h
  | _ :: _, [], h => by simp [chkAs] at h

/-- A pure integer operand. -/
theorem rep_int {o : Operand} {r : RA} {k : IntKind} {n : Int} (h : chkA o r = true) (he : ev r = .pv (.int k n)) : ρ o = .int k n :=
  inv_int (he ▸ hev o r h)

theorem rep_bool {o : Operand} {r : RA} {b : Bool} (h : chkA o r = true) (he : ev r = .pv (.bool b)) : ρ o = .bool b :=
  inv_bool (he ▸ hev o r h)

theorem rep_str {o : Operand} {r : RA} {l : List UInt8} (h : chkA o r = true) (he : ev r = .pv (.str l)) : ρ o = .string ⟨l.toArray⟩ :=
  inv_str (he ▸ hev o r h)

end
end Go.Ab
