/- The abstract layer, part 1: values, steps, their soundness. Under: nothing. -/
import Derived.Test.YtnecjlmfpnbooaaGreatDoorAbG0
import Derived.Laws.StructEq
import Derived.Great.FillDense
import Derived.ChangeKeysEq
import Derived.IntWalk
/- The check of the own code against the model's, and one operation's soundness: those that touch no memory. Under: nothing. -/
namespace Go.Ab
open Go.RowKit

def chkV0 : Value → AV → Bool
  | .bool a, .pv (.bool b) => a == b
  | .int k a, .pv (.int k' b) => decide (k = k') && a == b
  | .string s, .pv (.str l) => s.data.toList == l
  | .slice none 0 0, .emp _ => true
  | .slice none 0 0, .pv (.sl _ []) => true
  | .nilFunc, .pv .nilFunc => true
  | .func (.func f) xs ys, .func (.func g) [] [] => f == g && xs.size == 0 && ys.size == 0
  | _, _ => false

def chkVs : List Value → List AV → Bool
  | [], [] => true
  | v :: l, a :: m => chkV0 v a && chkVs l m
  | _, _ => false

def chkV : Value → AV → Bool
  | .agg cs, .agg l => chkVs cs.toList l
  | v, a => chkV0 v a

def chkA : Operand → RA → Bool
  | .tmp t, .t u => t == u && decide (t < 1024)
  | .const v, .c a => chkV v a
  | .func f, .f g => f == g
  | .global g, .g i => g == i
  | _, _ => false

def chkAs : List Operand → List RA → Bool
  | [], [] => true
  | o :: l, r :: m => chkA o r && chkAs l m
  | _, _ => false

def chkO : Option Operand → Option RA → Bool
  | none, none => true
  | some o, some r => chkA o r
  | _, _ => false

def chkSize (P : Program) (t n : Nat) : Bool := match P.info? t with | some i => i.size == n | none => false
def chkAgg (P : Program) (t : Nat) (agg : Bool) : Bool := match P.underlying t with
  | some (.struct _) => agg
  | some (.array _ _) => agg
  | some _ => !agg
  | none => false
def chkZero (P : Program) (t : Nat) (zs : List AV) : Bool := match P.info? t with
  | some i => (match i.zero with | some z => chkVs z.cells.toList zs | none => false)
  | none => false

section
variable {P : Program} {w : World} {I : Imm} {ι : Nat → Option Nat} {σ : Store} {D : Nat → Prop}

theorem bytes_eq {s : ByteArray} {l : List UInt8} (h : s.data.toList = l) : s = ⟨l.toArray⟩ := by
  obtain ⟨d⟩ := s; subst h; simp

theorem RepP.str' {s : ByteArray} {l : List UInt8} (h : s.data.toList = l) : RepP w I (.string s) (.str l) := h ▸ .str s

theorem chkV0_rep {v : Value} {a : AV} (h : chkV0 v a = true) : RepA w I ι σ D v a := by
  unfold chkV0 at h
  split at h
  · simp at h; subst h; exact .pv (.bool _)
  · simp at h; obtain ⟨rfl, rfl⟩ := h; exact .pv (.int _ _)
  · simp at h; exact .pv (.str' h)
  · exact .emp _
  · exact .pv (.sl (fun _ _ => default) rfl (Nat.le_refl _) (fun i row h => by simp at h) (fun h => absurd rfl h) (fun i j row q h => by simp at h))
  · exact .pv .nilFunc
  · rename_i f xs ys g
    simp at h
    obtain ⟨⟨rfl, hx⟩, hy⟩ := h
    subst hx; subst hy
    exact .func rfl rfl (fun j x q _ hq => by simp at hq) (fun j x q _ hq => by simp at hq)
  · cases h

theorem chkVs_rep : ∀ {l : List Value} {m : List AV}, chkVs l m = true → l.length = m.length ∧ ∀ (j : Nat) (x : Value) (q : AV), l[j]? = some x → m[j]? = some q → RepA w I ι σ D x q
  | [], [], _ => ⟨rfl, fun j x q hx => by simp at hx⟩
  | v :: l, a :: m, h => by
    simp only [chkVs, Bool.and_eq_true] at h
    obtain ⟨h1, h2⟩ := h
    obtain ⟨e, hr⟩ := chkVs_rep h2
    refine ⟨by simp [e], fun j x q hx hq => ?_⟩
    cases j with
    | zero => simp at hx hq; subst hx; subst hq; exact chkV0_rep h1
    | succ j => simp at hx hq; exact hr j x q hx hq
  | [], _ :: _, h => by simp [chkVs] at h
  | _ :: _, [], h => by simp [chkVs] at h

theorem chkV_rep {v : Value} {a : AV} (h : chkV v a = true) : RepA w I ι σ D v a := by
  unfold chkV at h
  split at h
  · obtain ⟨e, hr⟩ := chkVs_rep h
    exact .agg (by simpa using e) fun j x q hx hq => hr j x q (by simpa using hx) hq
  · exact chkV0_rep h

theorem run_sizeOf' {t n : Nat} (h : chkSize P t n = true) (w : World) : (sizeOf t).run P w = .ok n w := by
  unfold chkSize at h
  split at h
  · rename_i i hi
    simp at h
    simp [sizeOf, typeInfo, hi, h]
  · cases h

theorem run_isAgg' {t : Nat} {g : Bool} (h : chkAgg P t g = true) (w : World) : (isAgg t).run P w = .ok g w := by
  unfold chkAgg at h
  split at h <;> simp_all [isAgg, underlying]

theorem run_under {t : TypeId} {d : TypeDesc} (h : P.underlying t = some d) (w : World) : (underlying t).run P w = .ok d w := by
  simp [underlying, h]

theorem run_zero' {t : Nat} {zs : List AV} (h : chkZero P t zs = true) (w : World) : ∃ z, (zeroValue t).run P w = .ok z w ∧ chkVs z.cells.toList zs = true := by
  unfold chkZero at h
  split at h
  · rename_i i hi
    split at h
    · rename_i z hz
      exact ⟨z, by simp [zeroValue, typeInfo, hi, hz], h⟩
    · cases h
  · cases h
end

theorem inv_int {w : World} {I : Imm} {ι : Nat → Option Nat} {σ : Store} {D : Nat → Prop} {v : Value} {k : IntKind} {n : Int} (h : RepA w I ι σ D v (.pv (.int k n))) : v = .int k n := by
  cases h with | pv h => cases h; rfl
theorem inv_bool {w : World} {I : Imm} {ι : Nat → Option Nat} {σ : Store} {D : Nat → Prop} {v : Value} {b : Bool} (h : RepA w I ι σ D v (.pv (.bool b))) : v = .bool b := by
  cases h with | pv h => cases h; rfl
theorem inv_str {w : World} {I : Imm} {ι : Nat → Option Nat} {σ : Store} {D : Nat → Prop} {v : Value} {l : List UInt8} (h : RepA w I ι σ D v (.pv (.str l))) : v = .string ⟨l.toArray⟩ := by
  cases h with | pv h => cases h; exact congrArg Value.string (bytes_eq rfl)

/-- What stays true from one operation to the next. -/
structure Core (B : Nat) (w0 : World) (I0 : Imm) (w : World) (I : Imm) (ι : Nat → Option Nat) (σ : Store) (D : Nat → Prop) : Prop where
  sims : SimS B w I ι σ D
  below : Below B w0 w
  hB : B ≤ w0.heap.size
  ext : ∀ r k, I0 r k → I r k
  old : ∀ r k, r < B → I r k → I0 r k

/-- What one operation has done. -/
def StepTo (B : Nat) (w0 : World) (I0 : Imm) (w : World) (I : Imm) (ι : Nat → Option Nat) (σ : Store) (D : Nat → Prop) (nm : Nat) (av : AV) (v : Value) (w' : World) (σ' : Store) : Prop :=
  ∃ I' ι' D', Core B w0 I0 w' I' ι' σ' D' ∧ Later w I ι σ D w' I' ι' σ' D' ∧ RepA w' I' ι' σ' D' v av ∧ ∀ b, D' b → D b ∨ (nm ≤ b ∧ b < nm + stride)

def Good (P : Program) (B : Nat) (w0 : World) (I0 : Imm) (w : World) (I : Imm) (ι : Nat → Option Nat) (σ : Store) (D : Nat → Prop) (nm : Nat) (e : Eff) (s : Sem Next) : Prop :=
  ∃ nx v w', s.run P w = .ok nx w' ∧ (nx = .value v ∨ (nx = .skip ∧ v = undef)) ∧ StepTo B w0 I0 w I ι σ D nm e.v v w' (upAll σ e.up)

section
variable {P : Program} {B : Nat} {w0 : World} {I0 : Imm} {w : World} {I : Imm} {ι : Nat → Option Nat} {σ : Store} {D : Nat → Prop} {nm : Nat} {ρ : Operand → Value} {ev : RA → AV}

theorem StepTo.same {av : AV} {v : Value} (hc : Core B w0 I0 w I ι σ D) (h : RepA w I ι σ D v av) : StepTo B w0 I0 w I ι σ D nm av v w σ :=
  ⟨I, ι, D, hc, Later.refl, h, fun _ h => .inl h⟩

theorem good_same {e : Eff} {s : Sem Next} {v : Value} (hc : Core B w0 I0 w I ι σ D) (hr : s.run P w = .ok (.value v) w) (hu : e.up = []) (h : RepA w I ι σ D v e.v) :
    Good P B w0 I0 w I ι σ D nm e s :=
  ⟨_, v, w, hr, .inl rfl, by rw [hu]; exact StepTo.same hc h⟩

variable (hev : ∀ o r, chkA o r = true → RepA w I ι σ D (ρ o) (ev r))
include hev

theorem chkAs_rep : ∀ {l : List Operand} {m : List RA}, chkAs l m = true → l.length = m.length ∧ ∀ (j : Nat) (x : Operand) (q : RA), l[j]? = some x → m[j]? = some q → RepA w I ι σ D (ρ x) (ev q)
  | [], [], _ => ⟨rfl, fun j x q hx => by simp at hx⟩
  | v :: l, a :: m, h => by
    simp only [chkAs, Bool.and_eq_true] at h
    obtain ⟨h1, h2⟩ := h
    obtain ⟨e, hr⟩ := chkAs_rep h2
    refine ⟨by simp [e], fun j x q hx hq => ?_⟩
    cases j with
    | zero => simp at hx hq; subst hx; subst hq; exact hev _ _ h1
    | succ j => simp at hx hq; exact hr j x q hx hq
  | [], _ :: _, h => by simp [chkAs] at h
  | _ :: _, [], h => by simp [chkAs] at h

/-- A pure integer operand. -/
theorem rep_int {o : Operand} {r : RA} {k : IntKind} {n : Int} (h : chkA o r = true) (he : ev r = .pv (.int k n)) : ρ o = .int k n :=
  inv_int (he ▸ hev o r h)

theorem rep_bool {o : Operand} {r : RA} {b : Bool} (h : chkA o r = true) (he : ev r = .pv (.bool b)) : ρ o = .bool b :=
  inv_bool (he ▸ hev o r h)

theorem rep_str {o : Operand} {r : RA} {l : List UInt8} (h : chkA o r = true) (he : ev r = .pv (.str l)) : ρ o = .string ⟨l.toArray⟩ :=
  inv_str (he ▸ hev o r h)

end
end Go.Ab

/- One operation's soundness: those that touch no memory. Under: nothing. -/
namespace Go.Ab
open Go.RowKit
section
variable {P : Program} {B : Nat} {w0 : World} {I0 : Imm} {w : World} {I : Imm} {ι : Nat → Option Nat} {σ : Store} {D : Nat → Prop} {nm : Nat} {ρ : Operand → Value} {ev : RA → AV} {e : Eff}
variable (hc : Core B w0 I0 w I ι σ D) (hev : ∀ o r, chkA o r = true → RepA w I ι σ D (ρ o) (ev r))
include hc hev

theorem snd_mv {x : Operand} {y : RA} (hx : chkA x y = true) (h : step σ nm ev (.mv y) = some e) : Good P B w0 I0 w I ι σ D nm e (pure (.value (ρ x))) := by
  simp only [step, Eff.of] at h; cases h
  exact good_same hc rfl rfl (hev x y hx)

theorem snd_pick {c a b : Operand} {c' a' b' : RA} (h1 : chkA c c' = true) (h2 : chkA a a' = true) (h3 : chkA b b' = true) (h : step σ nm ev (.pick c' a' b') = some e) :
    Good P B w0 I0 w I ι σ D nm e (do pure (.value (if ← asBool (ρ c) then ρ a else ρ b))) := by
  simp only [step] at h
  split at h
  · rename_i x hx
    simp only [Eff.of] at h; cases h
    refine good_same (v := if x then ρ a else ρ b) hc (by simp [rep_bool hev h1 hx, asBool]) rfl ?_
    cases x
    · exact hev b b' h3
    · exact hev a a' h2
  · cases h

theorem snd_not {x : Operand} {y : RA} (hx : chkA x y = true) (h : step σ nm ev (.not y) = some e) : Good P B w0 I0 w I ι σ D nm e (do pure (.value (← Op.unary .not (ρ x)))) := by
  simp only [step] at h
  split at h
  · rename_i b hb
    simp only [Eff.of] at h; cases h
    exact good_same (v := .bool !b) hc (by simp [rep_bool hev hx hb, Op.unary]) rfl (.pv (.bool _))
  · cases h

theorem snd_neg {x : Operand} {y : RA} (hx : chkA x y = true) (h : step σ nm ev (.neg y) = some e) : Good P B w0 I0 w I ι σ D nm e (do pure (.value (← Op.unary .neg (ρ x)))) := by
  simp only [step] at h
  split at h
  · rename_i k n hb
    simp only [Eff.of] at h; cases h
    exact good_same (v := .int k (k.wrap (0 - n))) hc (by simp [rep_int hev hx hb, Op.unary, Op.intArith]) rfl (.pv (.int _ _))
  · cases h

theorem snd_conv {x : Operand} {y : RA} {s d : TypeId} {k : IntKind} {ds : TypeDesc} (hs : P.underlying s = some ds) (hd : P.underlying d = some (.int k)) (hx : chkA x y = true) (h : step σ nm ev (.conv k y) = some e) :
    Good P B w0 I0 w I ι σ D nm e (do pure (.value (← convert s d (ρ x)))) := by
  simp only [step] at h
  split at h
  · rename_i k' n hb
    simp only [Eff.of] at h; cases h
    refine good_same (v := .int k (k.wrap n)) hc ?_ rfl (.pv (.int _ _))
    rw [rep_int hev hx hb]
    simp [convert, run_under hs, run_under hd, Conv.intToInt]
  · cases h

theorem snd_same {x : Operand} {y : RA} {s d : TypeId} {ds : TypeDesc} (hs : P.underlying s = some ds) (hd : P.underlying d = some .string) (hx : chkA x y = true) (h : step σ nm ev (.same y) = some e) :
    Good P B w0 I0 w I ι σ D nm e (do pure (.value (← convert s d (ρ x)))) := by
  simp only [step] at h
  split at h
  · rename_i l hb
    simp only [Eff.of] at h; cases h
    refine good_same (v := .string ⟨l.toArray⟩) hc ?_ rfl (.pv (.str' (by simp)))
    rw [rep_str hev hx hb]
    simp [convert, run_under hs, run_under hd]
  · cases h

theorem snd_mkf {fn : Fn} {xs ys : Array Operand} {xs' ys' : List RA} (h1 : chkAs xs.toList xs' = true) (h2 : chkAs ys.toList ys' = true) (h : step σ nm ev (.mkf fn xs' ys') = some e) :
    Good P B w0 I0 w I ι σ D nm e (do pure (.value (← Instr.makeFunc fn (xs.map ρ) (ys.map ρ)))) := by
  simp only [step, Eff.of] at h; cases h
  refine good_same (v := .func fn (xs.map ρ) (ys.map ρ)) hc (by simp [Instr.makeFunc]) rfl ?_
  obtain ⟨e1, r1⟩ := chkAs_rep hev h1
  obtain ⟨e2, r2⟩ := chkAs_rep hev h2
  refine .func (by simpa using e1) (by simpa using e2) (fun j x q hx hq => ?_) (fun j x q hx hq => ?_)
  · simp only [Array.getElem?_map, Option.map_eq_some_iff, List.getElem?_map] at hx hq
    obtain ⟨x', hx', rfl⟩ := hx
    obtain ⟨q', hq', rfl⟩ := hq
    exact r1 j x' q' (by simpa using hx') hq'
  · simp only [Array.getElem?_map, Option.map_eq_some_iff, List.getElem?_map] at hx hq
    obtain ⟨x', hx', rfl⟩ := hx
    obtain ⟨q', hq', rfl⟩ := hq
    exact r2 j x' q' (by simpa using hx') hq'

omit hev in
theorem snd_alen {n : Nat} {x : Operand} {t : TypeId} {el : TypeId} (ht : P.underlying t = some (.array n el)) (h : step σ nm ev (.alen n) = some e) :
    Good P B w0 I0 w I ι σ D nm e (do pure (.value (← Builtin.len_ #[t] 0 #[ρ x]))) := by
  simp only [step, Eff.of] at h; cases h
  exact good_same (v := goInt n) hc (by simp [Builtin.len_, run_under ht]) rfl (.pv (.int _ _))

theorem snd_strlen {x : Operand} {y : RA} {t ty : TypeId} (ht : P.underlying t = some .string) (hx : chkA x y = true) (h : step σ nm ev (.strlen y) = some e) :
    Good P B w0 I0 w I ι σ D nm e (do pure (.value (← Builtin.len_ #[t] ty #[ρ x]))) := by
  simp only [step] at h
  split at h
  · rename_i l hb
    simp only [Eff.of] at h; cases h
    refine good_same (v := goInt l.length) hc ?_ rfl (.pv (.int _ _))
    rw [rep_str hev hx hb]
    have hsz : (ByteArray.mk l.toArray).size = l.length := by simp [ByteArray.size]
    unfold Builtin.len_
    simp [run_under ht, hsz]
  · cases h

omit hc in
theorem optIdx_run {o : Option Operand} {r : Option RA} {d i : Int} (hx : chkO o r = true) (h : optIdx ev d r = some i) : (o = none ∧ i = d) ∨ ∃ x k, o = some x ∧ ρ x = .int k i := by
  cases o <;> cases r <;> simp only [chkO] at hx <;> try cases hx
  · simp only [optIdx] at h; cases h; exact .inl ⟨rfl, rfl⟩
  · rename_i x y
    simp only [optIdx] at h
    refine .inr ⟨x, ?_⟩
    cases hy : ev y with
    | pv p =>
      cases p <;> rw [hy] at h <;> simp only [idxOf] at h <;> cases h
      rename_i k
      exact ⟨k, rfl, rep_int hev hx hy⟩
    | _ => rw [hy] at h; simp [idxOf] at h

omit hc hev in
theorem run_sliceBound {x : Value} {k : IntKind} {i : Int} {y : Nat} {code : BoundsCode} (hx : x = .int k i) (h0 : 0 ≤ i) (h1 : i ≤ y) (w : World) :
    (Instr.sliceBound x y code).run P w = .ok i.toNat w := by
  subst hx
  simp [Instr.sliceBound, asIntOf, h0, h1]

end
end Go.Ab

/- One operation's soundness: numbers, strings, parts of values, addresses. Under: nothing. -/
namespace Go.Ab
open Go.RowKit
section
variable {P : Program} {B : Nat} {w0 : World} {I0 : Imm} {w : World} {I : Imm} {ι : Nat → Option Nat} {σ : Store} {D : Nat → Prop} {nm : Nat} {ρ : Operand → Value} {ev : RA → AV} {e : Eff}

theorem bt_loop (bs : ByteArray) : ∀ (n i : Nat) (r : List UInt8), bs.size - i = n → ByteArray.toList.loop bs i r = r.reverse ++ bs.data.toList.drop i := by
  intro n
  induction n with
  | zero =>
    intro i r h
    unfold ByteArray.toList.loop
    rw [if_neg (by omega)]
    have : bs.data.toList.drop i = [] := List.drop_eq_nil_of_le (by show bs.data.size ≤ i; have : bs.size = bs.data.size := rfl; omega)
    simp [this]
  | succ n ih =>
    intro i r h
    unfold ByteArray.toList.loop
    have hlt : i < bs.data.toList.length := by show i < bs.data.size; have : bs.size = bs.data.size := rfl; omega
    rw [if_pos (by omega), ih (i + 1) _ (by omega), List.drop_eq_getElem_cons hlt]
    have : bs.get! i = bs.data.toList[i] := by
      simp [ByteArray.get!]; rw [getElem!_pos bs.data i hlt]
    simp [this]
theorem bt (bs : ByteArray) : bs.toList = bs.data.toList := by
  unfold ByteArray.toList
  rw [bt_loop bs _ 0 [] rfl]; simp

theorem list_beq (a b : List UInt8) : ((ByteArray.mk a.toArray).toList == (ByteArray.mk b.toArray).toList) = (a == b) := by
  rw [bt, bt]

theorem size_mk (l : List UInt8) : (ByteArray.mk l.toArray).size = l.length := by simp [ByteArray.size]

theorem append_mk (a b : List UInt8) : (ByteArray.mk a.toArray) ++ (ByteArray.mk b.toArray) = ⟨(a ++ b).toArray⟩ := by
  apply ByteArray.ext; simp

theorem run_binop {op : BinOp} {t : TypeId} {x y v : AV} {vx vy : Value} (h : binop op x y = some v) (hx : RepA w I ι σ D vx x) (hy : RepA w I ι σ D vy y) :
    ∃ r, (binOp op t vx vy).run P w = .ok r w ∧ RepA w I ι σ D r v ∧ (∀ cs, vx ≠ .agg cs) ∧ vx ≠ .nilIface := by
  unfold binop at h
  split at h
  · rename_i k a k' b
    rw [inv_int hx, inv_int hy]
    split at h
    · rename_i hk
      subst hk
      split at h
      case h_1 => cases h; exact ⟨.int k (k.wrap (a + b)), by simp [binOp, Op.intArith], .pv (.int _ _), by simp, by simp⟩
      case h_2 => cases h; exact ⟨.int k (k.wrap (a - b)), by simp [binOp, Op.intArith], .pv (.int _ _), by simp, by simp⟩
      case h_3 => cases h; exact ⟨.int k (k.wrap (a * b)), by simp [binOp, Op.intArith], .pv (.int _ _), by simp, by simp⟩
      case h_4 =>
        split at h
        · cases h
        · rename_i hb; cases h; exact ⟨.int k (k.wrap (a.tdiv b)), by simp [binOp, Op.intDiv, hb], .pv (.int _ _), by simp, by simp⟩
      case h_5 =>
        split at h
        · cases h
        · rename_i hb; cases h; exact ⟨.int k (a.tmod b), by simp [binOp, Op.intDiv, hb], .pv (.int _ _), by simp, by simp⟩
      case h_6 => cases h; exact ⟨.bool (a == b), by simp [binOp, Op.intCmp], .pv (.bool _), by simp, by simp⟩
      case h_7 => cases h; exact ⟨.bool (a != b), by simp [binOp, Op.intCmp], .pv (.bool _), by simp, by simp⟩
      case h_8 => cases h; exact ⟨.bool (decide (a < b)), by simp [binOp, Op.intCmp], .pv (.bool _), by simp, by simp⟩
      case h_9 => cases h; exact ⟨.bool (decide (a ≤ b)), by simp [binOp, Op.intCmp], .pv (.bool _), by simp, by simp⟩
      case h_10 => cases h; exact ⟨.bool (decide (a > b)), by simp [binOp, Op.intCmp], .pv (.bool _), by simp, by simp⟩
      case h_11 => cases h; exact ⟨.bool (decide (a ≥ b)), by simp [binOp, Op.intCmp], .pv (.bool _), by simp, by simp⟩
      case h_12 => cases h
    · cases h
  · rename_i a b
    rw [inv_str hx, inv_str hy]; cases h
    exact ⟨.bool (a == b), by simp only [binOp, Op.stringOp, list_beq]; rfl, .pv (.bool _), by simp, by simp⟩
  · rename_i a b
    rw [inv_str hx, inv_str hy]; cases h
    exact ⟨.bool (!(a == b)), by simp only [binOp, Op.stringOp, list_beq]; rfl, .pv (.bool _), by simp, by simp⟩
  · rename_i a b
    rw [inv_str hx, inv_str hy]
    split at h
    · rename_i hlt
      cases h
      refine ⟨.string ⟨(a ++ b).toArray⟩, ?_, .pv (.str' (by simp)), by simp, by simp⟩
      have : ¬ (((ByteArray.mk a.toArray).size + (ByteArray.mk b.toArray).size : Nat) : Int) > IntKind.i64.max := by
        rw [size_mk, size_mk]; have : IntKind.i64.max = 9223372036854775807 := rfl; rw [this]; omega
      simp only [binOp, Op.stringOp, if_neg this, append_mk]; rfl
    · cases h
  · cases h

theorem run_eqGuard {op : BinOp} {t : TypeId} {x y : Operand} {vx vy : Value} (h1 : ∀ cs, vx ≠ .agg cs) (h2 : vx ≠ .nilIface) : (eqGuard op t x y vx vy).run P w = .ok () w := by
  unfold eqGuard
  cases vx <;> first | exact absurd rfl h2 | exact absurd rfl (h1 _) | (cases op <;> rfl)

variable (hc : Core B w0 I0 w I ι σ D) (hev : ∀ o r, chkA o r = true → RepA w I ι σ D (ρ o) (ev r))
include hc hev

theorem snd_bin {op : BinOp} {t : TypeId} {x y : Operand} {x' y' : RA} (h1 : chkA x x' = true) (h2 : chkA y y' = true) (h : step σ nm ev (.bin op x' y') = some e) :
    Good P B w0 I0 w I ι σ D nm e (do pure (.value (← (do eqGuard op t x y (ρ x) (ρ y); binOp op t (ρ x) (ρ y))))) := by
  simp only [step] at h
  split at h
  · rename_i v hv
    simp only [Eff.of] at h; cases h
    obtain ⟨r, hr, hrep, n1, n2⟩ := run_binop (P := P) (t := t) (w := w) hv (hev _ _ h1) (hev _ _ h2)
    exact good_same (v := r) hc (by simp [run_eqGuard n1 n2, hr]) rfl hrep
  · cases h

theorem snd_eqb {neq : Bool} {t : TypeId} {x y : Operand} {x' y' : RA} (ht : P.underlying t = some .bool) (h1 : chkA x x' = true) (h2 : chkA y y' = true) (h : step σ nm ev (.eqb neq x' y') = some e) :
    Good P B w0 I0 w I ι σ D nm e (do pure (.value (← (do eqGuard (if neq then .neq else .eql) t x y (ρ x) (ρ y); binOp (if neq then .neq else .eql) t (ρ x) (ρ y))))) := by
  simp only [step] at h
  split at h
  · rename_i a b ha hb
    simp only [Eff.of] at h; cases h
    have hE : (Op.equal t (.bool a) (.bool b)).run P w = .ok (a == b) w := by
      unfold Op.equal Op.maxDepth
      rw [show (10000 : Nat) = 9999 + 1 from rfl]
      unfold Op.equalIn
      simp [run_under ht]
    refine good_same (v := .bool (match neq with | true => !(a == b) | false => a == b)) hc ?_ rfl (.pv (.bool _))
    rw [rep_bool hev h1 ha, rep_bool hev h2 hb]
    cases neq
    · simp [run_eqGuard, binOp, hE]
    · simp [run_eqGuard, binOp, hE]
  · cases h

theorem snd_extract {x : Operand} {y : RA} {i : Nat} (h1 : chkA x y = true) (h : step σ nm ev (.extract y i) = some e) :
    Good P B w0 I0 w I ι σ D nm e (do pure (.value (← Instr.extract (ρ x) i))) := by
  simp only [step] at h
  have hx := hev _ _ h1
  split at h
  · rename_i vs hv
    split at h
    · rename_i v hvi
      simp only [Eff.of] at h; cases h
      rw [hv] at hx
      generalize ρ x = X at hx
      cases hx with
      | tup hl hh =>
        rename_i cs
        have hlt : i < cs.size := by rw [hl]; exact (List.getElem?_eq_some_iff.1 hvi).1
        have hci : cs[i]? = some cs[i] := Array.getElem?_eq_getElem hlt
        exact good_same (v := cs[i]) hc (by simp [Instr.extract, hci]) rfl (hh i _ _ hci hvi)
    · cases h
  · rename_i ps hv
    split at h
    · rename_i p hpi
      simp only [Eff.of] at h; cases h
      rw [hv] at hx
      generalize ρ x = X at hx
      cases hx with
      | pv hx =>
        cases hx with
        | tup hl hh =>
          rename_i cs
          have hlt : i < cs.size := by rw [hl]; exact (List.getElem?_eq_some_iff.1 hpi).1
          have hci : cs[i]? = some cs[i] := Array.getElem?_eq_getElem hlt
          exact good_same (v := cs[i]) hc (by simp [Instr.extract, hci]) rfl (.pv (hh i _ _ hci hpi))
    · cases h
  · cases h

end
end Go.Ab

/- One operation's soundness: parts of values, loads. Under: nothing. -/
namespace Go.Ab
open Go.RowKit
section
variable {P : Program} {B : Nat} {w0 : World} {I0 : Imm} {w : World} {I : Imm} {ι : Nat → Option Nat} {σ : Store} {D : Nat → Prop} {nm : Nat} {ρ : Operand → Value} {ev : RA → AV} {e : Eff}

theorem agg_inv {v : Value} {a : AV} (h : RepA w I ι σ D v a) (ha : a.isAggV = true) : ∃ cs, v = .agg cs ∧ cs.size = a.cells.length ∧ ∀ (j : Nat) (x : Value) (q : AV), cs[j]? = some x → a.cells[j]? = some q → RepA w I ι σ D x q := by
  have hu : a.isUndef = false := by cases a <;> simp_all [AV.isAggV, AV.isUndef]
  obtain ⟨h1, h2⟩ := cells_rep h hu
  have : ∃ cs, v = .agg cs := by
    cases h with
    | pv h => cases h <;> simp_all [AV.isAggV]
    | agg hl h => exact ⟨_, rfl⟩
    | _ => simp [AV.isAggV] at ha
  obtain ⟨cs, rfl⟩ := this
  exact ⟨cs, rfl, h1, h2⟩

/-- A value of n cells, out of their values. -/
theorem mk_rep {agg : Bool} {cells : List AV} {av : AV} {vs : List Value} (h : mkAgg agg cells = some av) (hl : vs.length = cells.length)
    (hr : ∀ (j : Nat) (x : Value) (q : AV), vs[j]? = some x → cells[j]? = some q → RepA w I ι σ D x q) :
    (agg = true ∧ RepA w I ι σ D (.agg vs.toArray) av) ∨ (agg = false ∧ ∃ x, vs = [x] ∧ RepA w I ι σ D x av) := by
  cases agg with
  | true =>
    simp only [mkAgg] at h; cases h
    exact .inl ⟨rfl, .agg (by simpa using hl) fun j x q hx hq => hr j x q (by simpa using hx) hq⟩
  | false =>
    match cells, h with
    | [a], h =>
      simp only [mkAgg] at h; cases h
      match vs, hl with
      | [x], _ => exact .inr ⟨rfl, x, rfl, hr 0 x av rfl rfl⟩

theorem run_part {t n : Nat} {agg : Bool} {cells : List AV} {av : AV} {cs : Array Value} {off : Nat} (hs : chkSize P t n = true) (hg : chkAgg P t agg = true)
    (h : mkAgg agg cells = some av) (hn : cells.length = n) (hlen : off + n ≤ cs.size)
    (hr : ∀ (j : Nat) (x : Value) (q : AV), cs[off + j]? = some x → cells[j]? = some q → RepA w I ι σ D x q) (w₁ : World) :
    ∃ v, (part t cs off).run P w₁ = .ok v w₁ ∧ RepA w I ι σ D v av := by
  have hvs : ((cs.toList.drop off).take n).length = cells.length := by simp; omega
  have hrr : ∀ (j : Nat) (x : Value) (q : AV), ((cs.toList.drop off).take n)[j]? = some x → cells[j]? = some q → RepA w I ι σ D x q := by
    intro j x q hx hq
    have hj : j < n := by have := (List.getElem?_eq_some_iff.1 hq).1; omega
    rw [List.getElem?_take_of_lt hj, List.getElem?_drop] at hx
    exact hr j x q (by simpa using hx) hq
  rcases mk_rep h hvs hrr with ⟨rfl, h1⟩ | ⟨rfl, x, hx, h1⟩
  · refine ⟨_, ?_, h1⟩
    unfold part
    simp only [Sem.run_bind, run_isAgg' hg, Result.andThen_ok, if_true, run_sizeOf' hs, Sem.run_pure]
    congr 2
    apply Array.ext'
    simp [Array.toList_extract, List.extract]
  · refine ⟨x, ?_, h1⟩
    have hn1 : n = 1 := by have := congrArg List.length hx; rw [hvs, hn] at this; simpa using this
    subst hn1
    have : cs[off]? = some x := by
      have h0 : ((cs.toList.drop off).take 1)[0]? = some x := by rw [hx]; rfl
      rw [List.getElem?_take_of_lt (by omega), List.getElem?_drop] at h0
      simpa using h0
    unfold part
    simp [run_isAgg' hg, this]

theorem add_addr (r o k : Nat) : (⟨r, o, none⟩ : Addr).add k = ⟨r, o + k, none⟩ := by
  unfold Addr.add; by_cases h : k = 0 <;> simp [h]

theorem add_addr' {a : Addr} (h : a.spot = none) (k : Nat) : a.add k = ⟨a.block, a.off + k, none⟩ := by
  obtain ⟨b, o, s⟩ := a; cases h; exact add_addr b o k

/-- A variable's load. -/
theorem run_loadVar {t n : Nat} {agg : Bool} {cells : List AV} {av : AV} {r o : Nat} (hs : chkSize P t n = true) (hg : chkAgg P t agg = true)
    (h : mkAgg agg cells = some av) (hn : cells.length = n)
    (hr : ∀ (j : Nat) (q : AV), cells[j]? = some q → ∃ x, w.cell? ⟨r, o + j, none⟩ = some x ∧ RepA w I ι σ D x q) :
    ∃ v, (loadVar t ⟨r, o, none⟩).run P w = .ok v w ∧ RepA w I ι σ D v av := by
  let f : Nat → Value := fun k => (w.cell? ⟨r, o + k, none⟩).getD undef
  have hf : ∀ j, j < n → w.cell? ⟨r, o + j, none⟩ = some (f j) := by
    intro j hj
    obtain ⟨x, hx, _⟩ := hr j cells[j] (List.getElem?_eq_getElem (by omega))
    simp [f, hx]
  have hvs : ((List.range n).map f).length = cells.length := by simp [hn]
  have hrr : ∀ (j : Nat) (x : Value) (q : AV), ((List.range n).map f)[j]? = some x → cells[j]? = some q → RepA w I ι σ D x q := by
    intro j x q hx hq
    obtain ⟨x', hx', hrep⟩ := hr j q hq
    have hj : j < n := by have := (List.getElem?_eq_some_iff.1 hq).1; omega
    simp [hj] at hx
    subst hx
    simpa [f, hx'] using hrep
  rcases mk_rep h hvs hrr with ⟨rfl, h1⟩ | ⟨rfl, x, hx, h1⟩
  · refine ⟨_, ?_, h1⟩
    unfold loadVar
    simp only [Sem.run_bind, run_isAgg' hg, Result.andThen_ok, if_true, run_sizeOf' hs]
    rw [run_loadCells (w := w) (⟨r, o, none⟩ : Addr) n f (fun j hj => by rw [add_addr]; exact hf j hj)]
    simp
  · refine ⟨x, ?_, h1⟩
    have hn1 : n = 1 := by have := congrArg List.length hx; rw [hvs, hn] at this; simpa using this
    subst hn1
    have hx0 : f 0 = x := by simpa using hx
    have := hf 0 (by omega)
    rw [hx0] at this
    simp only [Nat.add_zero] at this
    unfold loadVar
    simp [run_isAgg' hg, this]

/-- The rows of a live block. -/
theorem row_cells {b i : Nat} {o : SObj} {row : List AV} (hs : SimS B w I ι σ D) (hf : find σ b = some o) (hrow : o.row? i = some row) :
    ∃ (r : Nat) (c : Array Value) (T : TypeId) (fz : Nat × Nat), ι b = some r ∧ w.heap[r]? = some (Obj.cells c T fz) ∧ Fz c fz ∧ o.len * o.es ≤ c.size ∧ row.length = o.es ∧
      ∀ j v, row[j]? = some v → ∃ x, c[i * o.es + j]? = some x ∧ RepC w I ι σ D x v := by
  have hob := hs.obj b o hf
  have hlen : o.len ≠ 0 := by
    intro h0
    cases o with
    | map ents => simp [SObj.row?] at hrow
    | arr e rs s =>
      simp only [SObj.len] at h0
      have : rs = [] := List.eq_nil_of_length_eq_zero h0
      subst this; simp [SObj.row?] at hrow
    | box e rs s =>
      simp only [SObj.len] at h0
      have : rs = [] := List.eq_nil_of_length_eq_zero h0
      subst this; simp [SObj.row?] at hrow
  have hR : RowsRep w I ι σ D b o := by
    cases o with
    | map ents => simp [SObj.row?] at hrow
    | arr e rs s => exact hob
    | box e rs s => exact hob
  rcases hR with ⟨_, h0⟩ | ⟨r, c, T, fz, h1, h2, h3, h4, h5⟩
  · exact absurd h0 hlen
  · exact ⟨r, c, T, fz, h1, h2, h3, h4, (h5 i row hrow).1, (h5 i row hrow).2⟩

theorem cell_of {r o : Nat} {c : Array Value} {T : TypeId} {fz : Nat × Nat} (h : w.heap[r]? = some (Obj.cells c T fz)) : w.cell? ⟨r, o, none⟩ = c[o]? := by
  simp [World.cell?, h]

variable (hc : Core B w0 I0 w I ι σ D) (hev : ∀ o r, chkA o r = true → RepA w I ι σ D (ρ o) (ev r))
include hc hev

theorem snd_load {x : Operand} {y : RA} {t n : Nat} {agg : Bool} (hs : chkSize P t n = true) (hg : chkAgg P t agg = true) (h1 : chkA x y = true)
    (h : step σ nm ev (.load agg n y) = some e) : Good P B w0 I0 w I ι σ D nm e (do pure (.value (← Instr.loadAt t (ρ x)))) := by
  simp only [step] at h
  have hx := hev _ _ h1
  split at h
  · rename_i b i j hb
    split at h
    · rename_i o ho
      split at h
      · rename_i row hrow
        split at h
        · rename_i hjn
          split at h
          · rename_i v hv
            cases h
            rw [hb] at hx
            generalize ρ x = X at hx
            cases hx with
            | ptr hD hone hx =>
              obtain ⟨r, hr, rfl⟩ := hx o ho
              obtain ⟨r', c, T, fz, k1, k2, k3, k4, k5, k6⟩ := row_cells hc.sims ho hrow
              rw [hr] at k1; cases k1
              obtain ⟨v', hv', hrep⟩ := run_loadVar (w := w) (o := i * o.es + j) (r := r) hs hg hv (by simp; omega) (fun k q hq => by
                have hk : k < n := by have := (List.getElem?_eq_some_iff.1 hq).1; simp at this; omega
                rw [List.getElem?_take_of_lt hk, List.getElem?_drop] at hq
                obtain ⟨x', hx', hrep⟩ := k6 (j + k) q hq
                exact ⟨x', by rw [cell_of k2, Nat.add_assoc]; exact hx', hrep.2⟩)
              exact good_same hc (by simp [Instr.loadAt, Instr.sureAddr, hv']) rfl hrep
          · cases h
        · cases h
      · cases h
    · cases h
  · rename_i cs hb
    split at h
    · rename_i hn
      split at h
      · rename_i v hv
        cases h
        rw [hb] at hx
        generalize ρ x = X at hx
        cases hx with
        | pv hx =>
          cases hx with
          | ref f ha hp hr =>
            rename_i a
            obtain ⟨ab, ao, as⟩ := a
            simp only at ha; subst ha
            obtain ⟨v', hv', hrep⟩ := run_loadVar (w := w) (I := I) (ι := ι) (σ := σ) (D := D) (o := ao) (r := ab) hs hg hv (by simp; omega) (fun k q hq => by
              have hk : k < n := by have := (List.getElem?_eq_some_iff.1 hq).1; simp at this; omega
              simp only [List.getElem?_map, Option.map_eq_some_iff] at hq
              obtain ⟨q', hq', rfl⟩ := hq
              rw [List.getElem?_take_of_lt hk] at hq'
              exact ⟨f k, (hp k (by omega)).1, .pv (hr k q' hq')⟩)
            exact good_same hc (by simp [Instr.loadAt, Instr.sureAddr, hv']) rfl hrep
      · cases h
    · cases h
  · cases h

theorem snd_field {x : Operand} {y : RA} {t f n off : Nat} {agg : Bool} {fields : Array Field} {fd : Field} (ht : P.underlying t = some (.struct fields)) (hf : fields[f]? = some fd) (hoff : fd.offset = off)
    (hs : chkSize P fd.type n = true) (hg : chkAgg P fd.type agg = true) (h1 : chkA x y = true)
    (h : step σ nm ev (.field agg off n y) = some e) : Good P B w0 I0 w I ι σ D nm e (do pure (.value (← Instr.field t (ρ x) f))) := by
  simp only [step, Eff.of] at h
  have hx := hev _ _ h1
  split at h
  · rename_i hle
    split at h
    · rename_i v hv
      cases h
      obtain ⟨cs, hcs, hsz, hrep⟩ := agg_inv hx hle.2
      obtain ⟨v', hv', hr'⟩ := run_part (w := w) (cs := cs) (off := off) hs hg hv (by simp; omega) (by omega) (fun j x' q hx' hq => by
        have hk : j < n := by have := (List.getElem?_eq_some_iff.1 hq).1; simp at this; omega
        rw [List.getElem?_take_of_lt hk, List.getElem?_drop] at hq
        exact hrep _ _ _ hx' hq) w
      subst hoff
      exact good_same hc (by rw [hcs]; simp [Instr.field, run_under ht, hf, asAgg, hv']) rfl hr'
    · cases h
  · cases h

omit hc in
theorem idx_inv {x : Operand} {y : RA} {k : Int} (h1 : chkA x y = true) (h : idxOf (ev y) = some k) : ∃ kk, ρ x = .int kk k := by
  cases hy : ev y with
  | pv p =>
    cases p <;> rw [hy] at h <;> simp only [idxOf] at h <;> cases h
    rename_i kk
    exact ⟨kk, rep_int hev h1 hy⟩
  | _ => rw [hy] at h; simp [idxOf] at h

theorem snd_index {x ix : Operand} {y yi : RA} {t len es el : Nat} {agg : Bool} (ht : P.underlying t = some (.array len el)) (hs : chkSize P el es = true) (hg : chkAgg P el agg = true) (h1 : chkA x y = true) (h2 : chkA ix yi = true)
    (h : step σ nm ev (.index agg len es y yi) = some e) : Good P B w0 I0 w I ι σ D nm e (do pure (.value (← Instr.index t (ρ x) (ρ ix)))) := by
  simp only [step, Eff.of] at h
  have hx := hev _ _ h1
  split at h
  · rename_i k hk
    obtain ⟨kk, hkk⟩ := idx_inv hev h2 hk
    split at h
    · rename_i hle
      split at h
      · rename_i v hv
        cases h
        obtain ⟨cs, hcs, hsz, hrep⟩ := agg_inv hx hle.2.2.2
        have hbound : k.toNat * es + es ≤ len * es := by
          have : k.toNat + 1 ≤ len := by omega
          calc k.toNat * es + es = (k.toNat + 1) * es := by rw [Nat.add_mul, Nat.one_mul]
            _ ≤ len * es := Nat.mul_le_mul_right _ this
        obtain ⟨v', hv', hr'⟩ := run_part (w := w) (cs := cs) (off := k.toNat * es) hs hg hv (by simp; omega) (by omega) (fun j x' q hx' hq => by
          have hk : j < es := by have := (List.getElem?_eq_some_iff.1 hq).1; simp at this; omega
          rw [List.getElem?_take_of_lt hk, List.getElem?_drop] at hq
          exact hrep _ _ _ hx' hq) w
        refine good_same hc ?_ rfl hr'
        rw [hcs, hkk]
        simp [Instr.index, asIntOf, run_under ht, hle.1, hle.2.1, run_sizeOf' hs, hv']
      · cases h
    · cases h
  · cases h

end
end Go.Ab

/- One operation's soundness: addresses, slices, strings. Under: nothing. -/
namespace Go.Ab
open Go.RowKit
section
variable {P : Program} {B : Nat} {w0 : World} {I0 : Imm} {w : World} {I : Imm} {ι : Nat → Option Nat} {σ : Store} {D : Nat → Prop} {nm : Nat} {ρ : Operand → Value} {ev : RA → AV} {e : Eff}
variable (hc : Core B w0 I0 w I ι σ D) (hev : ∀ o r, chkA o r = true → RepA w I ι σ D (ρ o) (ev r))
include hc hev

theorem snd_faddr {x : Operand} {y : RA} {t f off n : Nat} {fields : Array Field} {fd : Field} (ht : P.underlying t = some (.struct fields)) (hf : fields[f]? = some fd) (hoff : fd.offset = off)
    (hs : chkSize P fd.type n = true) (hn : n ≠ 0) (h1 : chkA x y = true) (h : step σ nm ev (.faddr y off) = some e) : Good P B w0 I0 w I ι σ D nm e (do pure (.value (← Instr.fieldAt t (ρ x) f))) := by
  simp only [step, Eff.of] at h
  have hx := hev _ _ h1
  have hrun : ∀ (a : Addr), (Instr.fieldAt t (.pointer (some a)) f).run P w = .ok (.pointer (some (a.add off))) w := by
    intro a
    simp [Instr.fieldAt, run_under ht, hf, Instr.sureAddr, fieldPlace, run_sizeOf' hs, hn, hoff]
  split at h
  · rename_i b i j hb
    split at h
    · rename_i o ho
      cases h
      rw [hb] at hx
      have hx' := hx
      generalize ρ x = X at hx
      cases hx with
      | ptr hD hone hx =>
        obtain ⟨r, hr, rfl⟩ := hx o ho
        refine good_same (v := .pointer (some ⟨r, i * o.es + (j + off), none⟩)) hc ?_ rfl ?_
        · simp only [Sem.run_bind, hrun, Result.andThen_ok, Sem.run_pure, add_addr, Nat.add_assoc]
        · refine .ptr hD rfl fun o' ho' => ?_
          rw [ho] at ho'; cases ho'
          exact ⟨r, hr, rfl⟩
    · cases h
  · rename_i cs hb
    cases h
    rw [hb] at hx
    generalize ρ x = X at hx
    cases hx with
    | pv hx =>
      cases hx with
      | ref g ha hp hr =>
        rename_i a
        refine good_same (v := .pointer (some (a.add off))) hc (by simp only [Sem.run_bind, hrun, Result.andThen_ok, Sem.run_pure]) rfl ?_
        rw [add_addr' ha]
        refine .pv (.ref (fun k => g (off + k)) rfl (fun k hk => ?_) (fun k q hq => ?_))
        · have := hp (off + k) (by simp at hk; omega)
          rw [← Nat.add_assoc] at this
          exact this
        · rw [List.getElem?_drop] at hq
          exact hr _ _ hq
  · cases h

theorem snd_iaddr {x ix : Operand} {y yi : RA} {t el es : Nat} (ht : P.underlying t = some (.slice el)) (hs : chkSize P el es = true) (h1 : chkA x y = true) (h2 : chkA ix yi = true)
    (h : step σ nm ev (.iaddr es y yi) = some e) : Good P B w0 I0 w I ι σ D nm e (do pure (.value (← Instr.indexAt t (ρ x) (ρ ix)))) := by
  simp only [step, step.iaddrP, Eff.of] at h
  have hx := hev _ _ h1
  have hrun : ∀ (a : Addr) (n cap : Nat) (k : Int) (kk : IntKind), ρ ix = .int kk k → 0 ≤ k → k < n → (Instr.indexAt t (.slice (some a) n cap) (ρ ix)).run P w = .ok (.pointer (some (a.add (k.toNat * es)))) w := by
    intro a n cap k kk hk h0 h1
    rw [hk]
    simp [Instr.indexAt, asIntOf, run_under ht, h0, h1, run_sizeOf' hs]
  have pure_case : ∀ (rows : List (List PV)) (n cap : Nat) (p : Option Addr) (k : Int) (kk : IntKind) (row : List PV), RepP w I (.slice p n cap) (.sl es rows) → ρ ix = .int kk k → 0 ≤ k → rows[k.toNat]? = some row →
      Good P B w0 I0 w I ι σ D nm { v := .pv (.ref row) } (do pure (.value (← Instr.indexAt t (.slice p n cap) (ρ ix)))) := by
    intro rows n cap p k kk row hrep hK h0 hrow
    cases hrep with
    | sl f hl hcap hw hp hr =>
      have hlt : k.toNat < rows.length := (List.getElem?_eq_some_iff.1 hrow).1
      obtain ⟨a, rfl, hsp, hcell⟩ := hp (by intro e; subst e; simp at hrow)
      refine good_same (v := .pointer (some (a.add (k.toNat * es)))) hc ?_ rfl ?_
      · simp only [Sem.run_bind, hrun a n cap k kk hK h0 (by omega), Result.andThen_ok, Sem.run_pure]
      · rw [add_addr' hsp]
        refine .pv (.ref (fun j => f k.toNat j) rfl (fun j hj => ?_) (fun j q hq => hr k.toNat j row q hrow hq))
        have := hcell k.toNat j hlt (by rw [← hw _ _ hrow]; exact hj)
        rw [← Nat.add_assoc] at this
        exact this
  split at h
  · rename_i k hk
    obtain ⟨kk, hkk⟩ := idx_inv hev h2 hk
    split at h
    · rename_i b i n hb
      split at h
      · rename_i o ho
        split at h
        · rename_i hle
          cases h
          rw [hb] at hx
          generalize ρ x = X at hx
          cases hx with
          | own hD hone hx =>
            obtain ⟨p, cap, rfl, hin, hcap, hh⟩ := hx o ho
            rcases hh with ⟨h0, _⟩ | ⟨r, c, T, fz, hr, rfl, hheap, hsz⟩
            · omega
            · refine good_same (v := .pointer (some ⟨r, (i + k.toNat) * o.es + 0, none⟩)) hc ?_ rfl ?_
              · simp only [Sem.run_bind, hrun _ n cap k kk hkk hle.1 hle.2.1, Result.andThen_ok, Sem.run_pure, add_addr]
                rw [hle.2.2, Nat.add_mul, Nat.add_zero]
              · refine .ptr hD rfl fun o' ho' => ?_
                rw [ho] at ho'; cases ho'
                exact ⟨r, hr, rfl⟩
        · cases h
      · cases h
    · rename_i es' rows hb
      split at h
      · rename_i he
        subst he
        split at h
        · rename_i h0
          split at h
          · rename_i row hrow
            cases h
            rw [hb] at hx
            generalize ρ x = X at hx
            cases hx with
            | pv hx =>
              have hx2 := hx
              cases hx with
              | sl f a b c d e' => exact pure_case rows _ _ _ k kk row hx2 hkk h0 hrow
          · cases h
        · cases h
      · cases h
    · rename_i es' rows hb
      split at h
      · rename_i he
        subst he
        split at h
        · rename_i h0
          split at h
          · rename_i row hrow
            cases h
            rw [hb] at hx
            generalize ρ x = X at hx
            cases hx with
            | fsl hx => exact pure_case rows _ _ _ k kk row hx hkk h0 hrow
          · cases h
        · cases h
      · cases h
    · cases h
  · cases h

theorem snd_slen {x : Operand} {y : RA} {t ty el : TypeId} (ht : P.underlying t = some (.slice el)) (h1 : chkA x y = true) (h : step σ nm ev (.slen y) = some e) :
    Good P B w0 I0 w I ι σ D nm e (do pure (.value (← Builtin.len_ #[t] ty #[ρ x]))) := by
  simp only [step, Eff.of] at h
  have hx := (hev _ _ h1).e
  have hrun : ∀ (p : Option Addr) (n cap : Nat), (Builtin.len_ #[t] ty #[.slice p n cap]).run P w = .ok (.int .i64 n) w := by
    intro p n cap
    unfold Builtin.len_
    simp [run_under ht, goInt]
  split at h
  · rename_i b i n hb
    split at h
    · rename_i o ho
      cases h
      rw [hb] at hx
      generalize ρ x = X at hx
      cases hx with
      | own hD hone hx =>
        obtain ⟨p, cap, rfl, _⟩ := hx o ho
        exact good_same (v := .int .i64 n) hc (by simp only [Sem.run_bind, hrun p n cap, Result.andThen_ok, Sem.run_pure]) rfl (.pv (.int _ _))
    · cases h
  · rename_i es rows hb
    cases h
    rw [hb] at hx
    generalize ρ x = X at hx
    cases hx with
    | pv hx =>
      cases hx with
      | sl f hl a b c d =>
        subst hl
        exact good_same (v := .int .i64 rows.length) hc (by simp only [Sem.run_bind, hrun, Result.andThen_ok, Sem.run_pure]) rfl (.pv (.int _ _))
  · rename_i es rows hb
    cases h
    rw [hb] at hx
    generalize ρ x = X at hx
    cases hx with
    | fsl hx =>
      cases hx with
      | sl f hl a b c d =>
        subst hl
        exact good_same (v := .int .i64 rows.length) hc (by simp only [Sem.run_bind, hrun, Result.andThen_ok, Sem.run_pure]) rfl (.pv (.int _ _))
  · rename_i es hb
    cases h
    rw [hb] at hx
    generalize ρ x = X at hx
    cases hx with
    | emp p =>
      exact good_same (v := .int .i64 0) hc (by simp only [Sem.run_bind, hrun, Result.andThen_ok, Sem.run_pure]; rfl) rfl (.pv (.int _ _))
  · cases h

theorem snd_sindex {x ix : Operand} {y yi : RA} {t : Nat} (ht : P.underlying t = some .string) (h1 : chkA x y = true) (h2 : chkA ix yi = true)
    (h : step σ nm ev (.sindex y yi) = some e) : Good P B w0 I0 w I ι σ D nm e (do pure (.value (← Instr.index t (ρ x) (ρ ix)))) := by
  simp only [step, Eff.of] at h
  split at h
  · rename_i s k hs hk
    obtain ⟨kk, hkk⟩ := idx_inv hev h2 hk
    split at h
    · rename_i h0
      split at h
      · rename_i b hb
        cases h
        refine good_same (v := .int .u8 b.toNat) hc ?_ rfl (.pv (.int _ _))
        rw [rep_str hev h1 hs, hkk]
        have hbb : (ByteArray.mk s.toArray)[k.toNat]? = some b := by
          have hlt : k.toNat < s.length := (List.getElem?_eq_some_iff.1 hb).1
          rw [getElem?_pos (ByteArray.mk s.toArray) k.toNat (by rw [size_mk]; exact hlt)]
          have : s[k.toNat] = b := (List.getElem?_eq_some_iff.1 hb).2
          rw [← this]; rfl
        simp [Instr.index, asIntOf, run_under ht, h0, hbb]
      · cases h
    · cases h
  · cases h

end
end Go.Ab

/- One operation's soundness: slicing, strings of slices, literals, maps looked up. Under: nothing. -/
namespace Go.Ab
open Go.RowKit
section
variable {P : Program} {B : Nat} {w0 : World} {I0 : Imm} {w : World} {I : Imm} {ι : Nat → Option Nat} {σ : Store} {D : Nat → Prop} {nm : Nat} {ρ : Operand → Value} {ev : RA → AV} {e : Eff}

theorem run_sliceBounds {isSlice : Bool} {len cap m' : Nat} {lo hi mx : Option Value} {l h : Int}
    (hlo : (lo = none ∧ l = 0) ∨ ∃ k, lo = some (.int k l)) (hhi : (hi = none ∧ h = len) ∨ ∃ k, hi = some (.int k h))
    (hmx : (mx = none ∧ m' = cap) ∨ ∃ k m, mx = some (.int k m) ∧ m' = m.toNat ∧ 0 ≤ m ∧ m ≤ cap) (hmh : hi = none → mx = none)
    (h0 : 0 ≤ l) (h1 : l ≤ h) (h2 : h ≤ m') (w : World) : (Instr.sliceBounds isSlice len cap lo hi mx).run P w = .ok (l.toNat, h.toNat, m') w := by
  have sb : ∀ (k : IntKind) (i : Int) (y : Nat) (code : BoundsCode), 0 ≤ i → i ≤ y → (Instr.sliceBound (.int k i) y code).run P w = .ok i.toNat w := fun k i y code a b => run_sliceBound rfl a b w
  unfold Instr.sliceBounds
  rcases hmx with ⟨rfl, rfl⟩ | ⟨k, m, rfl, rfl, hm0, hm1⟩
  · rcases hhi with ⟨rfl, rfl⟩ | ⟨k, rfl⟩
    · rcases hlo with ⟨rfl, rfl⟩ | ⟨k, rfl⟩
      · simp
      · simp [sb k l len _ h0 h1]
    · rcases hlo with ⟨rfl, rfl⟩ | ⟨k', rfl⟩
      · simp [sb k h m' _ h1 h2]
      · simp [sb k h m' _ (by omega) h2, sb k' l h.toNat _ h0 (by omega)]
  · rcases hhi with ⟨rfl, rfl⟩ | ⟨k', rfl⟩
    · exact absurd (hmh rfl) (by simp)
    · rcases hlo with ⟨rfl, rfl⟩ | ⟨k'', rfl⟩
      · simp [sb k m cap _ hm0 hm1, sb k' h m.toNat _ h1 h2]
      · simp [sb k m cap _ hm0 hm1, sb k' h m.toNat _ (by omega) h2, sb k'' l h.toNat _ h0 (by omega)]

theorem sl_inv {v : Value} {es : Nat} {rows : List (List PV)} (h : RepP w I v (.sl es rows)) : ∃ p n cap, v = .slice p n cap := by cases h; exact ⟨_, _, _, rfl⟩

variable (hc : Core B w0 I0 w I ι σ D) (hev : ∀ o r, chkA o r = true → RepA w I ι σ D (ρ o) (ev r))
include hc hev

omit hc in
theorem opt_val {o : Option Operand} {r : Option RA} {d i : Int} (hx : chkO o r = true) (h : optIdx ev d r = some i) : (o.map ρ = none ∧ i = d) ∨ ∃ k, o.map ρ = some (.int k i) := by
  rcases optIdx_run hev hx h with ⟨rfl, rfl⟩ | ⟨x, k, rfl, hk⟩
  · exact .inl ⟨rfl, rfl⟩
  · exact .inr ⟨k, by simp [hk]⟩

omit hc hev in
theorem opt_max {o : Option Operand} {d m : Int} {cap : Nat} (h : (o.map ρ = none ∧ m = d) ∨ ∃ k, o.map ρ = some (.int k m)) (h0 : 0 ≤ m) (h1 : m ≤ cap) :
    ∃ m' : Nat, ((o.map ρ = none ∧ m' = cap) ∨ ∃ k m, o.map ρ = some (.int k m) ∧ m' = m.toNat ∧ 0 ≤ m ∧ m ≤ cap) ∧ m ≤ m' ∧ m' ≤ cap ∧ (o ≠ none → (m' : Int) = m) := by
  rcases h with ⟨h, rfl⟩ | ⟨k, h⟩
  · exact ⟨cap, .inl ⟨h, rfl⟩, h1, Nat.le_refl _, fun hn => by cases o <;> simp_all⟩
  · exact ⟨m.toNat, .inr ⟨k, m, h, rfl, h0, h1⟩, by omega, by omega, fun _ => by omega⟩

theorem snd_slice {x : Operand} {y : RA} {lo hi mx : Option Operand} {lo' hi' mx' : Option RA} {t el es : Nat} (ht : P.underlying t = some (.slice el)) (hs : chkSize P el es = true)
    (h1 : chkA x y = true) (hlo : chkO lo lo' = true) (hhi : chkO hi hi' = true) (hmx : chkO mx mx' = true) (hmh : hi = none → mx = none)
    (h : step σ nm ev (.slice es y lo' hi' mx') = some e) : Good P B w0 I0 w I ι σ D nm e (do pure (.value (← Instr.sliceAt t (ρ x) (lo.map ρ) (hi.map ρ) (mx.map ρ)))) := by
  simp only [step, step.sliceP, Eff.of] at h
  have hx := (hev _ _ h1).e
  have hmh' : hi.map ρ = none → mx.map ρ = none := by
    intro hn; cases hi <;> simp_all
  have hrun : ∀ (p : Option Addr) (n cap m' : Nat) (l h : Int), (Instr.sliceBounds true n cap (lo.map ρ) (hi.map ρ) (mx.map ρ)).run P w = .ok (l.toNat, h.toNat, m') w →
      (Instr.sliceAt t (.slice p n cap) (lo.map ρ) (hi.map ρ) (mx.map ρ)).run P w = .ok (.slice (if m' = l.toNat then p else p.map (·.add (l.toNat * es))) (h.toNat - l.toNat) (m' - l.toNat)) w := by
    intro p n cap m' l h hb
    simp [Instr.sliceAt, run_under ht, Instr.slice, hb, run_sizeOf' hs]
  -- pure rows
  have pure_case : ∀ (p : Option Addr) (n cap : Nat) (rows : List (List PV)) (l h m : Int), RepP w I (.slice p n cap) (.sl es rows) → optIdx ev 0 lo' = some l → optIdx ev rows.length hi' = some h → optIdx ev rows.length mx' = some m →
      0 ≤ l ∧ l ≤ h ∧ h ≤ m ∧ m ≤ rows.length → ∃ (q : Option Addr) (k c : Nat), (Instr.sliceAt t (.slice p n cap) (lo.map ρ) (hi.map ρ) (mx.map ρ)).run P w = .ok (.slice q k c) w ∧
        RepP w I (.slice q k c) (.sl es ((rows.take h.toNat).drop l.toNat)) ∧ (mx' ≠ none → h = m → k = c) := by
    intro p n cap rows l h m hrep el eh em hle
    cases hrep with
    | sl f hl hcap hw hp hr =>
      subst hl
      obtain ⟨m', hm', hmm, hmc, hms⟩ := opt_max (ρ := ρ) (cap := cap) (opt_val hev hmx em) (by omega) (by omega)
      have hb := run_sliceBounds (P := P) (isSlice := true) (len := rows.length) (cap := cap) (opt_val hev hlo el) (opt_val hev hhi eh) hm' hmh' hle.1 hle.2.1 (by omega) w
      refine ⟨_, _, _, hrun p _ _ _ _ _ hb, ?_, fun hne hhm => ?_⟩
      · have hlen : ((rows.take h.toNat).drop l.toNat).length = h.toNat - l.toNat := by simp; omega
        have hget : ∀ i, i < h.toNat - l.toNat → ((rows.take h.toNat).drop l.toNat)[i]? = rows[l.toNat + i]? := by
          intro i hi
          rw [List.getElem?_drop, List.getElem?_take_of_lt (by omega)]
        refine .sl (fun i j => f (l.toNat + i) j) hlen (by omega) (fun i row hrow => ?_) (fun hne => ?_) (fun i j row q hrow hq => ?_)
        · have hi : i < h.toNat - l.toNat := by have := (List.getElem?_eq_some_iff.1 hrow).1; omega
          rw [hget i hi] at hrow; exact hw _ _ hrow
        · have hpos : 0 < h.toNat - l.toNat := by rw [← hlen]; exact List.length_pos_iff.2 hne
          obtain ⟨a, rfl, hsp, hcell⟩ := hp (by intro e; subst e; simp at hle hpos; omega)
          rw [if_neg (by omega)]
          refine ⟨a.add (l.toNat * es), rfl, by rw [add_addr' hsp], fun i j hi hj => ?_⟩
          rw [hlen] at hi
          rw [add_addr' hsp]
          have := hcell (l.toNat + i) j (by omega) hj
          rw [Nat.add_mul, Nat.add_assoc, ← Nat.add_assoc] at this
          exact this
        · have hi : i < h.toNat - l.toNat := by have := (List.getElem?_eq_some_iff.1 hrow).1; omega
          rw [hget i hi] at hrow; exact hr _ _ _ _ hrow hq
      · have hmo : mx ≠ none := by intro e; subst e; cases mx' <;> simp_all [chkO]
        have := hms hmo
        omega
  split at h
  · rename_i b i n hb
    split at h
    · rename_i o ho
      split at h
      · rename_i l hh m el eh em
        split at h
        · rename_i hle
          cases h
          rw [hb] at hx
          generalize ρ x = X at hx
          cases hx with
          | own hD hone hx =>
            obtain ⟨p, cap, rfl, hin, hcap, hcase⟩ := hx o ho
            have hml : m + i ≤ o.len := by
              cases mx' with
              | none => simp only [optIdx, Option.some.injEq] at em; omega
              | some x =>
                rcases hle.2.2.2.1 with h | h
                · cases h
                · omega
            obtain ⟨m', hm', hmm, hmc, hms⟩ := opt_max (ρ := ρ) (cap := cap) (opt_val hev hmx em) (by omega) (by omega)
            have hbd := run_sliceBounds (P := P) (isSlice := true) (len := n) (cap := cap) (opt_val hev hlo el) (opt_val hev hhi eh) hm' hmh' hle.1 hle.2.1 (by omega) w
            refine good_same (v := .slice (if m' = l.toNat then p else p.map (·.add (l.toNat * es))) (hh.toNat - l.toNat) (m' - l.toNat)) hc (by simp only [Sem.run_bind, hrun p _ _ _ _ _ hbd, Result.andThen_ok, Sem.run_pure]) rfl ?_
            refine .own hD rfl fun o' ho' => ?_
            rw [ho] at ho'; cases ho'
            have e1 : hh.toNat - l.toNat = (hh - l).toNat := by omega
            rw [e1]
            have hend : o.len ≤ i + m' := by
              rcases hm' with ⟨_, e⟩ | ⟨k, mm, hk, _⟩
              · omega
              · have hne : mx ≠ none := by intro e; subst e; simp at hk
                have := hms hne
                have hmo' : m ≤ n := by
                  rcases hle.2.2.2.1 with h | h
                  · exfalso
                    have hm0 : mx' = none := by simpa using h
                    subst hm0
                    cases mx with
                    | none => exact hne rfl
                    | some x => simp [chkO] at hmx
                  · exact h
                rcases hle.2.2.2.2.2 with hnone | hge
                · exfalso
                  have hm0 : mx' = none := by simpa using hnone
                  subst hm0
                  cases mx with
                  | none => exact hne rfl
                  | some x => simp [chkO] at hmx
                · omega
            refine ⟨_, _, rfl, by omega, ⟨by omega, by omega⟩, ?_⟩
            rcases hcase with ⟨h0, h1⟩ | ⟨r, c, T, fz, hr, rfl, hheap, hsz⟩
            · left; omega
            · by_cases hml : m' = l.toNat
              · left; omega
              · right
                refine ⟨r, c, T, fz, hr, ?_, hheap, ?_⟩
                · rw [if_neg hml]
                  simp only [Option.map_some, add_addr]
                  rw [Nat.add_mul, hle.2.2.2.2.1]
                · have : i + l.toNat + (m' - l.toNat) ≤ i + cap := by omega
                  exact Nat.le_trans (Nat.mul_le_mul_right _ this) hsz
        · cases h
      · cases h
    · cases h
  · rename_i es' rows hb
    split at h
    · rename_i he
      subst he
      split at h
      · rename_i l hh m el eh em
        split at h
        · rename_i hle
          rw [hb] at hx
          generalize ρ x = X at hx
          cases hx with
          | pv hx =>
            obtain ⟨p, n, cap, rfl⟩ := sl_inv hx
            · obtain ⟨q, k, c', hrun', hrep', hfull⟩ := pure_case p n cap rows l hh m hx el eh em hle
              have hG : Good P B w0 I0 w I ι σ D nm { v := .pv (.sl es' ((rows.take hh.toNat).drop l.toNat)) } (do pure (.value (← Instr.sliceAt t (.slice p n cap) (lo.map ρ) (hi.map ρ) (mx.map ρ)))) :=
                good_same hc (by simp only [Sem.run_bind, hrun', Result.andThen_ok, Sem.run_pure]) rfl (.pv hrep')
              split at h
              · split at h
                · rename_i hhm
                  cases h
                  have := hfull (by simp) hhm
                  subst this
                  exact good_same hc (by simp only [Sem.run_bind, hrun', Result.andThen_ok, Sem.run_pure]) rfl (.fsl hrep')
                · cases h; exact hG
              · cases h; exact hG
        · cases h
      · cases h
    · cases h
  · rename_i es' rows hb
    split at h
    · rename_i he
      subst he
      split at h
      · rename_i l hh m el eh em
        split at h
        · rename_i hle
          rw [hb] at hx
          generalize ρ x = X at hx
          cases hx with
          | fsl hx =>
            rename_i p n
            obtain ⟨q, k, c', hrun', hrep', hfull⟩ := pure_case p n n rows l hh m hx el eh em hle
            have hG : Good P B w0 I0 w I ι σ D nm { v := .pv (.sl es' ((rows.take hh.toNat).drop l.toNat)) } (do pure (.value (← Instr.sliceAt t (.slice p n n) (lo.map ρ) (hi.map ρ) (mx.map ρ)))) :=
              good_same hc (by simp only [Sem.run_bind, hrun', Result.andThen_ok, Sem.run_pure]) rfl (.pv hrep')
            split at h
            · split at h
              · rename_i hhm
                cases h
                have := hfull (by simp) hhm
                subst this
                exact good_same hc (by simp only [Sem.run_bind, hrun', Result.andThen_ok, Sem.run_pure]) rfl (.fsl hrep')
              · cases h; exact hG
            · cases h; exact hG
        · cases h
      · cases h
    · cases h
  · rename_i es' hb
    split at h
    · rename_i l hh m el eh em
      split at h
      · rename_i hle
        cases h
        obtain ⟨rfl, rfl, rfl⟩ := hle
        rw [hb] at hx
        generalize ρ x = X at hx
        cases hx with
        | emp =>
          obtain ⟨m', hm', hmm, hmc, hms⟩ := opt_max (ρ := ρ) (cap := 0) (opt_val hev hmx em) (by omega) (by omega)
          have hbd := run_sliceBounds (P := P) (isSlice := true) (len := 0) (cap := 0) (opt_val hev hlo el) (opt_val hev hhi eh) hm' hmh' (by omega) (by omega) (by omega) w
          have : m' = 0 := by omega
          subst this
          refine good_same (v := .slice none 0 0) hc ?_ rfl (.emp _)
          simp only [Sem.run_bind, hrun none _ _ _ _ _ hbd, Result.andThen_ok, Sem.run_pure]
          rfl
      · cases h
    · cases h
  · cases h

theorem snd_sslice {x : Operand} {y : RA} {lo hi : Option Operand} {lo' hi' : Option RA} {t : Nat} (ht : P.underlying t = some .string)
    (h1 : chkA x y = true) (hlo : chkO lo lo' = true) (hhi : chkO hi hi' = true)
    (h : step σ nm ev (.sslice y lo' hi') = some e) : Good P B w0 I0 w I ι σ D nm e (do pure (.value (← Instr.sliceAt t (ρ x) (lo.map ρ) (hi.map ρ) none))) := by
  simp only [step, Eff.of] at h
  split at h
  · rename_i s hs
    split at h
    · rename_i l hh el eh
      split at h
      · rename_i hle
        cases h
        have hbd := run_sliceBounds (P := P) (isSlice := false) (len := s.length) (cap := s.length) (m' := s.length) (mx := none) (opt_val hev hlo el) (opt_val hev hhi eh) (.inl ⟨rfl, rfl⟩) (fun _ => rfl) hle.1 hle.2.1 (by omega) w
        refine good_same (v := .string ((ByteArray.mk s.toArray).extract l.toNat hh.toNat)) hc ?_ rfl (.pv (.str' ?_))
        · rw [rep_str hev h1 hs]
          simp [Instr.sliceAt, run_under ht, Instr.slice, size_mk, hbd]
        · simp [List.extract, List.drop_take]
      · cases h
    · cases h
  · cases h

end
end Go.Ab

/- One operation's soundness: comparisons of structs, literals, least and greatest. Under: nothing. -/
namespace Go.Ab
open Go.RowKit
section
variable {P : Program} {B : Nat} {w0 : World} {I0 : Imm} {w : World} {I : Imm} {ι : Nat → Option Nat} {σ : Store} {D : Nat → Prop} {nm : Nat} {ρ : Operand → Value} {ev : RA → AV} {e : Eff}

def kindOk (P : Program) (t : TypeId) (k : Nat) : Bool := match P.underlying t with
  | some (.int _) => k == 0
  | some .bool => k == 1
  | some .string => k == 2
  | _ => false

def chkFields (P : Program) : List Field → List Nat → Nat → Bool
  | [], [], _ => true
  | f :: fs, k :: ks, j => f.name != "_" && f.offset == j && kindOk P f.type k && chkSize P f.type 1 && chkAgg P f.type false && chkFields P fs ks (j + 1)
  | _, _, _ => false

theorem run_scalar {t : TypeId} {k d : Nat} {a b : AV} {va vb : Value} {r : Bool} (hk : kindOk P t k = true) (h : scalarEq k a b = some r) (ha : RepA w I ι σ D va a) (hb : RepA w I ι σ D vb b) (w₁ : World) :
    (Op.equalIn (d + 1) t va vb).run P w₁ = .ok r w₁ := by
  unfold scalarEq at h
  split at h
  · rw [inv_int ha, inv_int hb]
    split at h
    · rename_i k₁ x k₂ y hkk
      subst hkk; cases h
      unfold kindOk at hk
      split at hk <;> simp_all [Op.equalIn, run_under]
    · cases h
  · rw [inv_bool ha, inv_bool hb]
    cases h
    unfold kindOk at hk
    split at hk <;> simp_all [Op.equalIn, run_under]
  · rw [inv_str ha, inv_str hb]
    rename_i x y
    cases h
    unfold kindOk at hk
    have hb : ((ByteArray.mk x.toArray) == (ByteArray.mk y.toArray)) = (x == y) := by rw [beq_toListBytes, list_beq]
    split at hk <;> simp_all [Op.equalIn, run_under]
  · cases h

theorem run_eqFields {d : Nat} {xs ys : Array Value} : ∀ (fs : List Field) (ks : List Nat) (j : Nat) (as bs : List AV) (r : Bool), chkFields P fs ks j = true → cellsEq ks as bs = some r →
    (∀ i x q, xs[j + i]? = some x → as[i]? = some q → RepA w I ι σ D x q) → (∀ i x q, ys[j + i]? = some x → bs[i]? = some q → RepA w I ι σ D x q) → j + as.length ≤ xs.size → j + bs.length ≤ ys.size →
    ∀ w₁, (Op.eqFields (d + 1) xs ys fs).run P w₁ = .ok r w₁
  | [], [], j, as, bs, r, _, h, _, _, _, _, w₁ => by
    match as, bs, h with
    | [], [], h => simp only [cellsEq] at h; cases h; simp [Op.eqFields]
  | f :: fs, k :: ks, j, as, bs, r, hf, h, hx, hy, lx, ly, w₁ => by
    match as, bs, h with
    | a :: as, b :: bs, h =>
      simp only [cellsEq] at h
      split at h
      · rename_i x hs
        split at h
        · rename_i y hc
          cases h
          simp only [chkFields, Bool.and_eq_true, bne_iff_ne, ne_eq, beq_iff_eq] at hf
          obtain ⟨⟨⟨⟨⟨hn, ho⟩, hk⟩, hsz⟩, hag⟩, hrest⟩ := hf
          have jx : j < xs.size := by simp at lx; omega
          have jy : j < ys.size := by simp at ly; omega
          have gx : xs[j]? = some xs[j] := Array.getElem?_eq_getElem jx
          have gy : ys[j]? = some ys[j] := Array.getElem?_eq_getElem jy
          have px : (part f.type xs f.offset).run P w₁ = .ok xs[j] w₁ := by unfold part; simp [run_isAgg' hag, ho, gx]
          have py : (part f.type ys f.offset).run P w₁ = .ok ys[j] w₁ := by unfold part; simp [run_isAgg' hag, ho, gy]
          have he := run_scalar (P := P) (t := f.type) (d := d) hk hs (hx 0 _ a gx rfl) (hy 0 _ b gy rfl) w₁
          have ih := run_eqFields (d := d) fs ks (j + 1) as bs y hrest hc (fun i x q h1 h2 => hx (i + 1) x q (by rw [← h1]; congr 1; omega) (by simpa using h2))
            (fun i x q h1 h2 => hy (i + 1) x q (by rw [← h1]; congr 1; omega) (by simpa using h2)) (by simp at lx; omega) (by simp at ly; omega) w₁
          rw [Op.eqFields, if_pos hn]
          simp only [Sem.run_bind, px, py, he, Result.andThen_ok]
          cases x
          · simp
          · simpa using ih
        · cases h
      · cases h
  | [], _ :: _, _, _, _, _, hf, _, _, _, _, _, _ => by simp [chkFields] at hf
  | _ :: _, [], _, _, _, _, hf, _, _, _, _, _, _ => by simp [chkFields] at hf

theorem run_eqGuard_agg {op : BinOp} {t : TypeId} {x y : Operand} {xs ys : Array Value} (hg : P.eqGuardType P.depth t = false) : (eqGuard op t x y (.agg xs) (.agg ys)).run P w = .ok () w := by
  unfold eqGuard
  simp [hg]

variable (hc : Core B w0 I0 w I ι σ D) (hev : ∀ o r, chkA o r = true → RepA w I ι σ D (ρ o) (ev r))
include hc hev

theorem snd_eqs {neq : Bool} {kinds : List Nat} {t : TypeId} {x y : Operand} {x' y' : RA} {fields : Array Field} (ht : P.underlying t = some (.struct fields)) (hp : P.stoodInHeld t = false) (hgd : P.eqGuardType P.depth t = false)
    (hf : chkFields P fields.toList kinds 0 = true) (h1 : chkA x x' = true) (h2 : chkA y y' = true) (h : step σ nm ev (.eqs neq kinds x' y') = some e) :
    Good P B w0 I0 w I ι σ D nm e (do pure (.value (← (do eqGuard (if neq then .neq else .eql) t x y (ρ x) (ρ y); binOp (if neq then .neq else .eql) t (ρ x) (ρ y))))) := by
  simp only [step] at h
  split at h
  · rename_i b hb
    split at h
    · rename_i hag
      simp only [Eff.of] at h; cases h
      obtain ⟨xs, ex, sx, rx⟩ := agg_inv (hev _ _ h1) hag.1
      obtain ⟨ys, ey, sy, ry⟩ := agg_inv (hev _ _ h2) hag.2
      have hfo : P.fieldsOf t = fields := by simp [Program.fieldsOf, ht]
      have hE : (Op.equal t (.agg xs) (.agg ys)).run P w = .ok b w := by
        unfold Op.equal Op.maxDepth
        rw [show (10000 : Nat) = 9999 + 1 from rfl, run_equalIn_struct (P := P) w 9999 t xs ys (by rw [hfo]; exact ht) hp, hfo]
        exact run_eqFields (d := 9998) fields.toList kinds 0 _ _ b hf hb (fun i x q h1 h2 => rx i x q (by simpa using h1) h2) (fun i x q h1 h2 => ry i x q (by simpa using h1) h2) (by omega) (by omega) w
      refine good_same (v := .bool (match neq with | true => !b | false => b)) hc ?_ rfl (.pv (.bool _))
      rw [ex, ey]
      cases neq
      · simp [run_eqGuard_agg hgd, binOp, hE]
      · simp [run_eqGuard_agg hgd, binOp, hE]
    · cases h
  · cases h

omit hc hev in
theorem run_eqItems {d : Nat} {el k : Nat} {xs ys : Array Value} (hk : kindOk P el k = true) (hag : chkAgg P el false = true) : ∀ (n j : Nat) (as bs : List AV) (r : Bool), cellsEq (List.replicate n k) as bs = some r →
    (∀ i x q, xs[j + i]? = some x → as[i]? = some q → RepA w I ι σ D x q) → (∀ i x q, ys[j + i]? = some x → bs[i]? = some q → RepA w I ι σ D x q) → j + as.length ≤ xs.size → j + bs.length ≤ ys.size →
    ∀ w₁, (Op.eqItems (d + 1) el 1 xs ys (List.range' j n)).run P w₁ = .ok r w₁
  | 0, j, as, bs, r, h, _, _, _, _, w₁ => by
    match as, bs, h with
    | [], [], h => simp only [List.replicate, cellsEq] at h; cases h; simp [Op.eqItems]
  | n + 1, j, as, bs, r, h, hx, hy, lx, ly, w₁ => by
    match as, bs, h with
    | a :: as, b :: bs, h =>
      simp only [List.replicate, cellsEq] at h
      split at h
      · rename_i x hs
        split at h
        · rename_i y hc
          cases h
          have jx : j < xs.size := by simp at lx; omega
          have jy : j < ys.size := by simp at ly; omega
          have gx : xs[j]? = some xs[j] := Array.getElem?_eq_getElem jx
          have gy : ys[j]? = some ys[j] := Array.getElem?_eq_getElem jy
          have px : (part el xs (j * 1)).run P w₁ = .ok xs[j] w₁ := by unfold part; simp [run_isAgg' hag, gx]
          have py : (part el ys (j * 1)).run P w₁ = .ok ys[j] w₁ := by unfold part; simp [run_isAgg' hag, gy]
          have he := run_scalar (P := P) (t := el) (d := d) hk hs (hx 0 _ a gx rfl) (hy 0 _ b gy rfl) w₁
          have ih := run_eqItems (d := d) hk hag n (j + 1) as bs y hc (fun i x q h1 h2 => hx (i + 1) x q (by rw [← h1]; congr 1; omega) (by simpa using h2))
            (fun i x q h1 h2 => hy (i + 1) x q (by rw [← h1]; congr 1; omega) (by simpa using h2)) (by simp at lx; omega) (by simp at ly; omega) w₁
          show (Op.eqItems (d + 1) el 1 xs ys (j :: List.range' (j + 1) n)).run P w₁ = _
          simp only [Op.eqItems, Sem.run_bind, px, py, he, Result.andThen_ok]
          cases x
          · simp
          · simpa using ih
        · cases h
      · cases h

theorem snd_eqa {neq : Bool} {k len el : Nat} {t : TypeId} {x y : Operand} {x' y' : RA} {ie : TypeInfo} (ht : P.underlying t = some (.array len el)) (hgd : P.eqGuardType P.depth t = false)
    (hi : P.info? el = some ie) (hsz : ie.size = 1) (hk : kindOk P el k = true) (hag : chkAgg P el false = true) (h1 : chkA x x' = true) (h2 : chkA y y' = true) (h : step σ nm ev (.eqs neq (List.replicate len k) x' y') = some e) :
    Good P B w0 I0 w I ι σ D nm e (do pure (.value (← (do eqGuard (if neq then .neq else .eql) t x y (ρ x) (ρ y); binOp (if neq then .neq else .eql) t (ρ x) (ρ y))))) := by
  simp only [step] at h
  split at h
  · rename_i b hb
    split at h
    · rename_i hagg
      simp only [Eff.of] at h; cases h
      obtain ⟨xs, ex, sx, rx⟩ := agg_inv (hev _ _ h1) hagg.1
      obtain ⟨ys, ey, sy, ry⟩ := agg_inv (hev _ _ h2) hagg.2
      have hco : P.cellsOf el = 1 := by simp [Program.cellsOf, hi, hsz]
      have hE : (Op.equal t (.agg xs) (.agg ys)).run P w = .ok b w := by
        unfold Op.equal Op.maxDepth
        rw [show (10000 : Nat) = 9999 + 1 from rfl, run_equalIn_array (P := P) w 9999 xs ys ht hi, hco, List.range_eq_range']
        exact run_eqItems (d := 9998) hk hag len 0 _ _ b hb (fun i x q h1 h2 => rx i x q (by simpa using h1) h2) (fun i x q h1 h2 => ry i x q (by simpa using h1) h2) (by omega) (by omega) w
      refine good_same (v := .bool (match neq with | true => !b | false => b)) hc ?_ rfl (.pv (.bool _))
      rw [ex, ey]
      cases neq
      · simp [run_eqGuard_agg hgd, binOp, hE]
      · simp [run_eqGuard_agg hgd, binOp, hE]
    · cases h
  · cases h

theorem snd_isnil {neq : Bool} {t el : Nat} {x y : Operand} {x' : RA} (ht : P.underlying t = some (.slice el)) (h1 : chkA x x' = true) (hy : ρ y = .slice none 0 0) (h : step σ nm ev (.isnil neq x') = some e) :
    Good P B w0 I0 w I ι σ D nm e (do pure (.value (← (do eqGuard (if neq then .neq else .eql) t x y (ρ x) (ρ y); binOp (if neq then .neq else .eql) t (ρ x) (ρ y))))) := by
  have hx := (hev _ _ h1).e
  have hrun : ∀ (p : Option Addr) (n cap : Nat), ρ x = .slice p n cap → (do pure (.value (← (do eqGuard (if neq then .neq else .eql) t x y (ρ x) (ρ y); binOp (if neq then .neq else .eql) t (ρ x) (ρ y)))) : Sem Next).run P w = .ok (.value (.bool (match neq with | true => !p.isNone | false => p.isNone))) w := by
    intro p n cap e
    rw [e, hy]
    have hE : (Op.equal t (.slice p n cap) (.slice none 0 0)).run P w = .ok p.isNone w := by
      have gen : ∀ d, (Op.equalIn (d + 1) t (.slice p n cap) (.slice none 0 0)).run P w = .ok p.isNone w := by
        intro d
        cases p <;> simp [Op.equalIn, run_under ht]
      exact gen 9999
    cases neq <;> simp [eqGuard, binOp, hE]
  have hany : ∀ (p : Option Addr) (n cap : Nat), ρ x = .slice p n cap → e = { v := .anyB } ∨ (∃ rd, e = { v := .anyB, rd := rd }) → Good P B w0 I0 w I ι σ D nm e (do pure (.value (← (do eqGuard (if neq then .neq else .eql) t x y (ρ x) (ρ y); binOp (if neq then .neq else .eql) t (ρ x) (ρ y))))) := by
    intro p n cap hp he
    have : e.up = [] ∧ e.v = .anyB := by rcases he with rfl | ⟨rd, rfl⟩ <;> exact ⟨rfl, rfl⟩
    exact good_same hc (hrun p n cap hp) this.1 (by rw [this.2]; exact .anyB _)
  have hsome : ∀ (a : Addr) (n cap : Nat), ρ x = .slice (some a) n cap → e.up = [] → e.v = .pv (.bool neq) → Good P B w0 I0 w I ι σ D nm e (do pure (.value (← (do eqGuard (if neq then .neq else .eql) t x y (ρ x) (ρ y); binOp (if neq then .neq else .eql) t (ρ x) (ρ y))))) := by
    intro a n cap hp hu hv
    refine good_same hc (hrun (some a) n cap hp) hu ?_
    rw [hv]
    cases neq <;> exact .pv (.bool _)
  have hpure : ∀ {es : Nat} {rows : List (List PV)}, RepP w I (ρ x) (.sl es rows) → (match rows with | [] => Eff.of .anyB | _ :: _ => Eff.of (.pv (.bool neq))) = some e → Good P B w0 I0 w I ι σ D nm e (do pure (.value (← (do eqGuard (if neq then .neq else .eql) t x y (ρ x) (ρ y); binOp (if neq then .neq else .eql) t (ρ x) (ρ y))))) := by
    intro es rows hr h
    generalize hX : ρ x = X at hr
    cases hr with
    | sl f hl hcap hw hp hrr =>
      cases rows with
      | nil => simp only [Eff.of] at h; cases h; exact hX ▸ hany _ _ _ hX (.inl rfl)
      | cons r rs =>
        simp only [Eff.of] at h; cases h
        obtain ⟨a, rfl, _⟩ := hp (by simp)
        exact hX ▸ hsome a _ _ hX rfl rfl
  simp only [step] at h
  split at h
  · rename_i es he
    rw [he] at hx
    generalize hX : ρ x = X at hx
    cases hx with
    | emp =>
      simp only [Eff.of] at h; cases h
      rw [← hX]
      refine good_same hc (hrun none 0 0 hX) rfl ?_
      cases neq <;> exact .pv (.bool _)
  · rename_i es rows he
    rw [he] at hx
    generalize hX : ρ x = X at hx
    cases hx with
    | fsl hx => exact hX ▸ hpure (hX ▸ hx) h
  · rename_i es rows he
    rw [he] at hx
    have hx' : RepP w I (ρ x) (.sl es rows) := by
      generalize ρ x = X at hx
      cases hx with
      | pv hx => exact hx
    exact hpure hx' h
  · rename_i b i n he
    rw [he] at hx
    split at h
    · rename_i o hf
      generalize hX : ρ x = X at hx
      cases hx with
      | own hD hone hx =>
        obtain ⟨p, cap, rfl, hin, hcap, hcase⟩ := hx o hf
        split at h
        · cases h; exact hX ▸ hany _ _ _ hX (.inr ⟨_, rfl⟩)
        · cases h
          rcases hcase with ⟨h0, _⟩ | ⟨r, c, T, fz, hr, rfl, hheap, hsz⟩
          · omega
          · exact hX ▸ hsome _ _ _ hX rfl rfl
    · cases h
  · cases h
end
end Go.Ab

/- One operation's soundness: literals and new memory. Under: nothing. -/
namespace Go.Ab
open Go.RowKit
section
variable {P : Program} {B : Nat} {w0 : World} {I0 : Imm} {w : World} {I : Imm} {ι : Nat → Option Nat} {σ : Store} {D : Nat → Prop} {nm : Nat} {ρ : Operand → Value} {ev : RA → AV} {e : Eff}

/-- Cells, one by one. -/
def CellsRep (w : World) (I : Imm) (ι : Nat → Option Nat) (σ : Store) (D : Nat → Prop) (c : Array Value) (as : List AV) : Prop :=
  c.size = as.length ∧ ∀ (j : Nat) (x : Value) (q : AV), c[j]? = some x → as[j]? = some q → RepA w I ι σ D x q

theorem setRange_get {row cs : List AV} {j : Nat} (h : j + cs.length ≤ row.length) (k : Nat) : (setRange row j cs)[k]? = if j ≤ k ∧ k < j + cs.length then cs[k - j]? else row[k]? := by
  unfold setRange
  have hl : (row.take j).length = j := by simp; omega
  by_cases h1 : k < j
  · rw [if_neg (by omega), List.append_assoc, List.getElem?_append_left (by omega), List.getElem?_take_of_lt h1]
  · by_cases h2 : k < j + cs.length
    · rw [if_pos ⟨by omega, h2⟩, List.append_assoc, List.getElem?_append_right (by omega), hl, List.getElem?_append_left (by omega)]
    · rw [if_neg (by omega), List.getElem?_append_right (by simp; omega), List.getElem?_drop]
      congr 1; simp; omega

theorem setRange_length {row cs : List AV} {j : Nat} (h : j + cs.length ≤ row.length) : (setRange row j cs).length = row.length := by
  simp [setRange]; omega

/-- Parts go into cells. -/
theorem run_fill {place : Nat → Option (Nat × Nat)} : ∀ (ps : List (Nat × Value)) (qs : List (Nat × Nat × AV)) (c : Array Value) (as : List AV) (r : List AV),
    ps.length = qs.length → (∀ (i k : Nat) (v : Value) (o n : Nat) (a : AV), ps[i]? = some (k, v) → qs[i]? = some (o, n, a) → place k = some (o, n) ∧ n ≠ 0 ∧ RepA w I ι σ D v a) →
    CellsRep w I ι σ D c as → fillA as qs = some r → ∃ c', Instr.fill place c ps = some c' ∧ CellsRep w I ι σ D c' r
  | [], [], c, as, r, _, _, hc, h => by simp only [fillA] at h; cases h; exact ⟨c, rfl, hc⟩
  | (k, v) :: ps, (o, n, a) :: qs, c, as, r, hl, hp, hc, h => by
    simp only [fillA] at h
    split at h
    · rename_i hn
      obtain ⟨hpl, hn0, hrep⟩ := hp 0 k v o n a rfl rfl
      have hu : a.isUndef = false := by
        cases a <;> simp_all [AV.isUndef, AV.cells]
      obtain ⟨s1, s2⟩ := cells_rep hrep hu
      have hsz : v.cells.size = n := by omega
      obtain ⟨f1, f2⟩ := Go.Great.foldl_set o v.cells.toList 0 c
      have hz : v.cells.zipIdx.foldl (fun cs (x : Value × Nat) => cs.setIfInBounds (o + x.2) x.1) c = (v.cells.toList.zipIdx 0).foldl (fun cs (x : Value × Nat) => cs.setIfInBounds (o + x.2) x.1) c := by
        rw [← Array.foldl_toList]; simp
      have hc' : CellsRep w I ι σ D (v.cells.zipIdx.foldl (fun cs (x : Value × Nat) => cs.setIfInBounds (o + x.2) x.1) c) (setRange as o a.cells) := by
        rw [hz]
        refine ⟨by rw [f1, setRange_length (by omega)]; exact hc.1, fun j x q hx hq => ?_⟩
        rw [f2] at hx
        rw [setRange_get (by omega)] at hq
        have hcs := hc.1
        by_cases hj : o ≤ j ∧ j < o + a.cells.length
        · rw [if_pos hj] at hq
          rw [if_pos (by simp only [Nat.add_zero, Array.length_toList]; omega)] at hx
          simp only [Nat.add_zero, Array.getElem?_toList] at hx
          exact s2 _ _ _ hx hq
        · rw [if_neg hj] at hq
          rw [if_neg (by simp only [Nat.add_zero, Array.length_toList]; omega)] at hx
          exact hc.2 _ _ _ hx hq
      obtain ⟨c', h1, h2⟩ := run_fill ps qs _ _ r (by simpa using hl) (fun i k v o n a e1 e2 => hp (i + 1) k v o n a (by simpa using e1) (by simpa using e2)) hc' h
      refine ⟨c', ?_, h2⟩
      simp only [Instr.fill, hpl]
      rw [if_neg (by have := hc.1; simp [hsz]; omega)]
      exact h1
    · cases h
  | [], _ :: _, _, _, _, hl, _, _, _ => by simp at hl
  | _ :: _, [], _, _, _, hl, _, _, _ => by simp at hl

def chkParts (P : Program) (place : Nat → Option (Nat × Nat)) : List (Nat × Operand) → List (Nat × Nat × RA) → Bool
  | [], [] => true
  | (k, x) :: l, (o, n, y) :: m => (match place k with | some (o', n') => o == o' && n == n' | none => false) && n != 0 && chkA x y && chkParts P place l m
  | _, _ => false

theorem chkVs_cells {z : Value} {zs : List AV} (h : chkVs z.cells.toList zs = true) : CellsRep w I ι σ D z.cells zs := by
  obtain ⟨h1, h2⟩ := chkVs_rep (w := w) (I := I) (ι := ι) (σ := σ) (D := D) h
  exact ⟨by simpa using h1, fun j x q hx hq => h2 j x q (by simpa using hx) hq⟩

/-- The places of a type's parts: offset and size. -/
def placesOf (P : Program) (t : TypeId) : Nat → Option (Nat × Nat) := match P.underlying t with
  | some (.struct fields) => fun i => (fields[i]?).bind fun f => (P.info? f.type).map fun j => (f.offset, j.size)
  | some (.array _ el) => fun i => (P.info? el).map fun j => (i * j.size, j.size)
  | _ => fun _ => none

def infosOk (P : Program) (t : TypeId) : Bool := match P.underlying t with
  | some (.struct fields) => fields.all fun f => (P.info? f.type).isSome
  | some (.array _ el) => (P.info? el).isSome
  | _ => false

theorem chkParts_spec (hev : ∀ o r, chkA o r = true → RepA w I ι σ D (ρ o) (ev r)) {place : Nat → Option (Nat × Nat)} : ∀ (l : List (Nat × Operand)) (m : List (Nat × Nat × RA)), chkParts P place l m = true →
    (l.map fun p => (p.1, ρ p.2)).length = (m.map fun (o, n, x) => (o, n, ev x)).length ∧
    ∀ (i k : Nat) (v : Value) (o n : Nat) (a : AV), (l.map fun p => (p.1, ρ p.2))[i]? = some (k, v) → (m.map fun (o, n, x) => (o, n, ev x))[i]? = some (o, n, a) → place k = some (o, n) ∧ n ≠ 0 ∧ RepA w I ι σ D v a
  | [], [], _ => ⟨rfl, fun i k v o n a h => by simp at h⟩
  | (k, x) :: l, (o, n, y) :: m, h => by
    simp only [chkParts, Bool.and_eq_true, bne_iff_ne, ne_eq] at h
    obtain ⟨⟨⟨h1, h2⟩, h3⟩, h4⟩ := h
    obtain ⟨e1, e2⟩ := chkParts_spec hev l m h4
    refine ⟨by simpa using e1, fun i k' v o' n' a g1 g2 => ?_⟩
    cases i with
    | zero =>
      simp only [List.map_cons, List.getElem?_cons_zero, Option.some.injEq, Prod.mk.injEq] at g1 g2
      obtain ⟨rfl, rfl⟩ := g1
      obtain ⟨rfl, rfl, rfl⟩ := g2
      refine ⟨?_, h2, hev _ _ h3⟩
      split at h1
      · rename_i o' n' hpl
        simp only [Bool.and_eq_true, beq_iff_eq] at h1
        rw [hpl, h1.1, h1.2]
      · cases h1
    | succ i =>
      simp only [List.map_cons, List.getElem?_cons_succ] at g1 g2
      exact e2 i k' v o' n' a g1 g2
  | [], _ :: _, h => by simp [chkParts] at h
  | _ :: _, [], h => by simp [chkParts] at h

variable (hc : Core B w0 I0 w I ι σ D) (hev : ∀ o r, chkA o r = true → RepA w I ι σ D (ρ o) (ev r))
include hc hev

theorem snd_build {t : TypeId} {zeros : List AV} {parts : Array (Nat × Operand)} {parts' : List (Nat × Nat × RA)} (hz : chkZero P t zeros = true) (hi : infosOk P t = true)
    (hp : chkParts P (placesOf P t) parts.toList parts' = true) (h : step σ nm ev (.build zeros parts') = some e) :
    Good P B w0 I0 w I ι σ D nm e (do pure (.value (← Instr.build t (parts.map fun (i, x) => (i, ρ x))))) := by
  simp only [step, Eff.of] at h
  split at h
  · rename_i cs hcs
    cases h
    obtain ⟨z, hzr, hzc⟩ := run_zero' hz w
    obtain ⟨e1, e2⟩ := chkParts_spec (P := P) hev _ _ hp
    obtain ⟨c', hf, hrep⟩ := run_fill (place := placesOf P t) _ _ z.cells zeros cs e1 e2 (chkVs_cells hzc) hcs
    have hlist : (parts.map fun (i, x) => (i, ρ x)).toList = parts.toList.map fun p => (p.1, ρ p.2) := by simp
    refine good_same (v := .agg c') hc ?_ rfl (.agg hrep.1 hrep.2)
    unfold Instr.build
    unfold placesOf at hf
    unfold infosOk at hi
    simp only [Sem.run_bind, hzr, Result.andThen_ok]
    cases hu : P.underlying t with
    | none => rw [hu] at hi; cases hi
    | some d =>
      rw [hu] at hi hf
      cases d <;> simp only [Bool.false_eq_true] at hi
      case array len el =>
        simp only [run_under hu, Result.andThen_ok]
        obtain ⟨j, hj⟩ := Option.isSome_iff_exists.1 hi
        have hs : (sizeOf el).run P w = .ok j.size w := by simp [sizeOf, typeInfo, hj]
        simp only [Sem.run_bind, hs, Result.andThen_ok, hlist]
        have : (fun i => some (i * j.size, j.size)) = fun i => (P.info? el).map fun j => (i * j.size, j.size) := by funext i; simp [hj]
        rw [this, hf]
        simp
      case struct fields =>
        simp only [run_under hu, Result.andThen_ok]
        have hm : (fields.mapM fun f => (Prod.mk f.offset <$> sizeOf f.type : Sem (Nat × Nat))).run P w = .ok (fields.map fun f => (f.offset, P.cellsOf f.type)) w := by
          rw [Array.mapM_eq_mapM_toList]
          have : ∀ l : List Field, (∀ f ∈ l, (P.info? f.type).isSome = true) → (l.mapM fun f => (Prod.mk f.offset <$> sizeOf f.type : Sem (Nat × Nat))).run P w = .ok (l.map fun f => (f.offset, P.cellsOf f.type)) w := by
            intro l
            induction l with
            | nil => intro _; simp
            | cons f l ih =>
              intro hl
              obtain ⟨j, hj⟩ := Option.isSome_iff_exists.1 (hl f (by simp))
              have hs : (sizeOf f.type).run P w = .ok j.size w := by simp [sizeOf, typeInfo, hj]
              have ih' := ih (fun g hg => hl g (by simp [hg]))
              rw [List.mapM_cons]
              simp only [Sem.run_bind, Sem.run_map, hs, Result.andThen_ok, ih', Sem.run_pure]
              simp [Program.cellsOf, hj]
          simp only [Sem.run_map]
          rw [this fields.toList (fun f hf => by
            have := (Array.all_eq_true_iff_forall_mem.1 hi) f (by simpa using hf)
            exact this)]
          simp only [Result.andThen_ok]
          congr 1
          apply Array.ext'; simp
        have hm' : (fields.mapM fun f => (do pure (f.offset, ← sizeOf f.type) : Sem (Nat × Nat))).run P w = .ok (fields.map fun f => (f.offset, P.cellsOf f.type)) w := by
          have : (fun f : Field => (do pure (f.offset, ← sizeOf f.type) : Sem (Nat × Nat))) = fun f => Prod.mk f.offset <$> sizeOf f.type := by funext f; simp
          rw [this]; exact hm
        simp only [Sem.run_bind, hm', Result.andThen_ok, hlist]
        have : (fun (i : Nat) => (fields.map fun f => (f.offset, P.cellsOf f.type))[i]?) = fun (i : Nat) => (fields[i]?).bind fun (f : Field) => (P.info? f.type).map fun j => (f.offset, j.size) := by
          funext i
          rw [Array.getElem?_map]
          cases hfi : fields[i]? with
          | none => rfl
          | some f =>
            obtain ⟨j, hj⟩ := Option.isSome_iff_exists.1 ((Array.all_eq_true_iff_forall_mem.1 hi) f (Array.mem_of_getElem? hfi))
            simp [Program.cellsOf, hj]
        simp only at hf
        rw [← this] at hf
        rw [hf]
        simp
  · cases h

end
end Go.Ab

/- One operation's soundness: new blocks. Under: nothing. -/
namespace Go.Ab
open Go.RowKit
section
variable {P : Program} {B : Nat} {w0 : World} {I0 : Imm} {w w' : World} {I : Imm} {ι : Nat → Option Nat} {σ : Store} {D : Nat → Prop} {nm : Nat} {ρ : Operand → Value} {ev : RA → AV} {e : Eff}

mutual
theorem pure_rep : ∀ (a : AV) (v : Value) (p : PV), a.pure? = some p → RepA w I ι σ D v a → RepP w I v p
  | .pv p, v, q, h, hr => by simp only [AV.pure?] at h; cases h; cases hr with | pv h => exact h
  | .emp es, v, q, h, hr => by
    simp only [AV.pure?] at h; cases h
    cases hr with
    | emp => exact .emp _
  | .fsl es rows, v, q, h, hr => by simp only [AV.pure?] at h; cases h; cases hr with | fsl h => exact h
  | .agg cs, v, q, h, hr => by
    simp only [AV.pure?] at h
    split at h
    · rename_i ps hps
      cases h
      cases hr with
      | agg hl hh =>
        obtain ⟨e1, e2⟩ := pures_rep cs ps hps
        refine .agg (hl.trans e1) fun j x q hx hq => ?_
        have hj : j < cs.length := by rw [e1]; exact (List.getElem?_eq_some_iff.1 hq).1
        exact e2 j x cs[j] q (List.getElem?_eq_getElem hj) hq (hh j x cs[j] hx (List.getElem?_eq_getElem hj))
    · cases h
  | .tup cs, v, q, h, hr => by
    simp only [AV.pure?] at h
    split at h
    · rename_i ps hps
      cases h
      cases hr with
      | tup hl hh =>
        obtain ⟨e1, e2⟩ := pures_rep cs ps hps
        refine .tup (hl.trans e1) fun j x q hx hq => ?_
        have hj : j < cs.length := by rw [e1]; exact (List.getElem?_eq_some_iff.1 hq).1
        exact e2 j x cs[j] q (List.getElem?_eq_getElem hj) hq (hh j x cs[j] hx (List.getElem?_eq_getElem hj))
    · cases h
  | .func fn xs ys, v, q, h, hr => by
    simp only [AV.pure?] at h
    split at h
    · rename_i ps qs hps hqs
      cases h
      cases hr with
      | func hl hl' hh hh' =>
        obtain ⟨e1, e2⟩ := pures_rep xs ps hps
        obtain ⟨f1, f2⟩ := pures_rep ys qs hqs
        refine .func (hl.trans e1) (hl'.trans f1) (fun j x q hx hq => ?_) (fun j x q hx hq => ?_)
        · have hj : j < xs.length := by rw [e1]; exact (List.getElem?_eq_some_iff.1 hq).1
          exact e2 j x xs[j] q (List.getElem?_eq_getElem hj) hq (hh j x xs[j] hx (List.getElem?_eq_getElem hj))
        · have hj : j < ys.length := by rw [f1]; exact (List.getElem?_eq_some_iff.1 hq).1
          exact f2 j x ys[j] q (List.getElem?_eq_getElem hj) hq (hh' j x ys[j] hx (List.getElem?_eq_getElem hj))
    · cases h
  | .ptr b i j, v, q, h, hr => by simp [AV.pure?] at h
  | .own b i n, v, q, h, hr => by simp [AV.pure?] at h
  | .mref b, v, q, h, hr => by simp [AV.pure?] at h
  | .undef, v, q, h, hr => by simp [AV.pure?] at h
theorem pures_rep : ∀ (l : List AV) (ps : List PV), pures? l = some ps → l.length = ps.length ∧ ∀ (j : Nat) (x : Value) (a : AV) (p : PV), l[j]? = some a → ps[j]? = some p → RepA w I ι σ D x a → RepP w I x p
  | [], ps, h => by simp only [pures?] at h; cases h; exact ⟨rfl, fun j x a p ha => by simp at ha⟩
  | a :: l, ps, h => by
    simp only [pures?] at h
    split at h
    · rename_i p hp
      split at h
      · rename_i qs hqs
        cases h
        obtain ⟨e1, e2⟩ := pures_rep l qs hqs
        refine ⟨by simp [e1], fun j x a' p' ha hp' hr => ?_⟩
        cases j with
        | zero => simp at ha hp'; subst ha; subst hp'; exact pure_rep a x p hp hr
        | succ j => simp at ha hp'; exact e2 j x a' p' ha hp' hr
      · cases h
    · cases h
end

/-- Rows as they lie in cells. -/
def RowsIn (w : World) (I : Imm) (ι : Nat → Option Nat) (σ : Store) (D : Nat → Prop) (c : Array Value) (es : Nat) (get : Nat → Option (List AV)) : Prop :=
  ∀ i row, get i = some row → row.length = es ∧ ∀ j v, row[j]? = some v → ∃ x, c[i * es + j]? = some x ∧ RepC w I ι σ D x v

theorem rowsPure_spec : ∀ (rows : List (List AV)) (ps : List (List PV)), rowsPure? rows = some ps → rows.length = ps.length ∧ ∀ (i : Nat) (p : List PV), ps[i]? = some p → ∃ r, rows[i]? = some r ∧ pures? r = some p
  | [], ps, h => by simp only [rowsPure?] at h; cases h; exact ⟨rfl, fun i p hp => by simp at hp⟩
  | r :: rows, ps, h => by
    simp only [rowsPure?] at h
    split at h
    · rename_i p hp
      split at h
      · rename_i qs hqs
        cases h
        obtain ⟨e1, e2⟩ := rowsPure_spec rows qs hqs
        refine ⟨by simp [e1], fun i p' hp' => ?_⟩
        cases i with
        | zero => simp at hp'; subst hp'; exact ⟨r, rfl, hp⟩
        | succ i => simp at hp'; simpa using e2 i p' hp'
      · cases h
    · cases h

theorem mkObj_spec {c : Array Value} {es : Nat} {rows : List (List AV)} (h : RowsIn w I ι σ D c es (fun i => rows[i]?)) :
    (mkObj es rows).es = es ∧ (mkObj es rows).len = rows.length ∧ (mkObj es rows).isMap = false ∧ (mkObj es rows).sealed = false ∧ RowsIn w I ι σ D c es (mkObj es rows).row? := by
  unfold mkObj
  split
  · rename_i ps hps
    obtain ⟨e1, e2⟩ := rowsPure_spec rows ps hps
    refine ⟨rfl, by simp [SObj.len, e1], rfl, rfl, fun i row hr => ?_⟩
    simp only [SObj.row?] at hr
    split at hr
    · rename_i p hp
      cases hr
      obtain ⟨r, hr, hpr⟩ := e2 i p hp
      obtain ⟨f1, f2⟩ := pures_rep (w := w) (I := I) (ι := ι) (σ := σ) (D := D) r p hpr
      obtain ⟨g1, g2⟩ := h i r hr
      refine ⟨by simp [← f1, g1], fun j v hv => ?_⟩
      simp only [List.getElem?_map, Option.map_eq_some_iff] at hv
      obtain ⟨q, hq, rfl⟩ := hv
      have hj : j < r.length := by rw [f1]; exact (List.getElem?_eq_some_iff.1 hq).1
      obtain ⟨x, hx, hrep⟩ := g2 j r[j] (List.getElem?_eq_getElem hj)
      exact ⟨x, hx, hrep.1, .pv (f2 j x r[j] q (List.getElem?_eq_getElem hj) hq hrep.2)⟩
    · cases hr
  · exact ⟨rfl, rfl, rfl, rfl, h⟩

theorem good_new {s : Sem Next} {v : Value} {c : Array Value} {T : TypeId} {fz : Nat × Nat} {o : SObj} (hc : Core B w0 I0 w I ι σ D) (hn : ¬ D nm)
    (hr : s.run P w = .ok (.value v) w') (hw : w'.heap = w.heap.push (Obj.cells c T fz)) (hb : Below B w0 w') (hfz : Fz c fz) (hm : o.isMap = false) (hlen : o.len * o.es ≤ c.size)
    (hrow : RowsIn w I ι σ D c o.es o.row?) (hu : e.up = [(nm, some o)])
    (hv : RepA w' I (setι ι nm (some w.heap.size)) (upS σ nm (some o)) (addD D nm) v e.v) : Good P B w0 I0 w I ι σ D nm e s := by
  have hBw : B ≤ w.heap.size := Nat.le_trans hc.hB hc.below.size
  have hs := hc.sims.new hBw hn hw hfz hm hlen hrow
  refine ⟨_, v, w', hr, .inl rfl, I, setι ι nm (some w.heap.size), addD D nm, ?_, ?_, ?_, ?_⟩
  · rw [hu]; exact ⟨hs, hb, hc.hB, hc.ext, hc.old⟩
  · rw [hu]; exact later_new hn hc.sims.bnd hw
  · rw [hu]; exact hv
  · rintro b (h | rfl)
    · exact .inl h
    · exact .inr ⟨Nat.le_refl _, by simp [stride]⟩

theorem rep_newptr {o : SObj} {r : Nat} (hD : D nm) (hι : ι nm = some r) : RepA w I ι (upS σ nm (some o)) D (.pointer (some ⟨r, 0, none⟩)) (.ptr nm 0 0) := by
  refine .ptr hD rfl fun o' ho' => ?_
  exact ⟨r, hι, by simp⟩

theorem rep_newown {o : SObj} {r n cap : Nat} {c : Array Value} {T : TypeId} {fz : Nat × Nat} (hD : D nm) (hι : ι nm = some r) (hw : w.heap[r]? = some (Obj.cells c T fz)) (hn : n = o.len) (hcap : n ≤ cap) (hsz : cap * o.es ≤ c.size) :
    RepA w I ι (upS σ nm (some o)) D (.slice (some ⟨r, 0, none⟩) n cap) (.own nm 0 n) := by
  refine .own hD rfl fun o' ho' => ?_
  rw [find_upS, if_pos rfl] at ho'; cases ho'
  exact ⟨_, cap, rfl, by omega, ⟨hcap, by omega⟩, .inr ⟨r, c, T, fz, hι, by simp, hw, by simpa using hsz⟩⟩

theorem below_alloc (hc : Core B w0 I0 w I ι σ D) (ob : Obj) : Below B w0 (w.alloc ob) := hc.below.alloc (Nat.le_trans hc.hB hc.below.size) ob

theorem allCells_spec {as : List AV} (h : allCells as = true) : ∀ a ∈ as, a.isCell = true := by
  induction as with
  | nil => simp
  | cons a as ih =>
    simp only [allCells, Bool.and_eq_true] at h
    intro x hx
    rcases List.mem_cons.1 hx with rfl | hx
    · exact h.1
    · exact ih h.2 x hx

theorem cells_one {v : Value} {a : AV} {n : Nat} (hv : RepA w I ι σ D v a) (hl : a.cells.length = n) (hn0 : n ≠ 0) (hall : allCells a.cells = true) : CellsRep w I ι σ D v.cells a.cells ∧ ∀ x ∈ v.cells.toList, x.oneCell' = true := by
  have hu : a.isUndef = false := by cases a <;> simp_all [AV.isUndef, AV.cells]
  obtain ⟨s1, s2⟩ := cells_rep hv hu
  refine ⟨⟨s1, s2⟩, fun x hx => ?_⟩
  obtain ⟨k, hk⟩ := List.getElem?_of_mem hx
  have hk' : k < a.cells.length := by have := (List.getElem?_eq_some_iff.1 hk).1; simp at this; omega
  exact (s2 k x a.cells[k] (by simpa using hk) (List.getElem?_eq_getElem hk')).oneCell (allCells_spec hall _ (List.getElem_mem hk'))

theorem chkV0_one {v : Value} {a : AV} (h : chkV0 v a = true) : v.oneCell' = true := by
  unfold chkV0 at h
  split at h <;> first | rfl | cases h

theorem chkVs_one : ∀ {l : List Value} {m : List AV}, chkVs l m = true → ∀ x ∈ l, x.oneCell' = true
  | [], _, _ => by simp
  | v :: l, a :: m, h => by
    simp only [chkVs, Bool.and_eq_true] at h
    intro x hx
    rcases List.mem_cons.1 hx with rfl | hx
    · exact chkV0_one h.1
    · exact chkVs_one h.2 x hx
  | _ :: _, [], h => by simp [chkVs] at h

theorem oneRow {c : Array Value} {as : List AV} (h : CellsRep w I ι σ D c as) (h1 : ∀ x ∈ c.toList, x.oneCell' = true) : RowsIn w I ι σ D c as.length (fun i => [as][i]?) := by
  intro i row hr
  cases i with
  | zero =>
    simp at hr; subst hr
    refine ⟨rfl, fun j v hv => ?_⟩
    have hj : j < c.size := by rw [h.1]; exact (List.getElem?_eq_some_iff.1 hv).1
    exact ⟨c[j], by simp [hj], h1 _ (by simp), h.2 j _ v (Array.getElem?_eq_getElem hj) hv⟩
  | succ i => simp at hr

variable (hc : Core B w0 I0 w I ι σ D) (hn : ¬ D nm) (hev : ∀ o r, chkA o r = true → RepA w I ι σ D (ρ o) (ev r))
include hc hn

theorem snd_alloc {t : TypeId} {zero : List AV} (hz : chkZero P t zero = true) (h : step σ nm ev (.alloc zero) = some e) :
    Good P B w0 I0 w I ι σ D nm e (do pure (.value (← Instr.alloc t true (.tuple #[])))) := by
  simp only [step] at h; cases h
  obtain ⟨z, hzr, hzc⟩ := run_zero' hz w
  have hcr := chkVs_cells (w := w) (I := I) (ι := ι) (σ := σ) (D := D) hzc
  refine good_new (w' := w.alloc (.cells z.cells t)) (v := .pointer (some ⟨w.heap.size, 0, none⟩)) (c := z.cells) (T := t) (fz := (0, 0)) hc hn ?_ rfl (below_alloc hc _) (.inr (Nat.le_refl _)) rfl ?_ ?_ rfl ?_
  · simp [Instr.alloc, hzr, newVar, newRow]
  · simp [SObj.len, SObj.es, hcr.1]
  · exact oneRow hcr (chkVs_one hzc)
  · exact rep_newptr (.inr rfl) (by simp [setι])

include hev

theorem snd_box {t n : Nat} {x : Operand} {y : RA} (hn0 : n ≠ 0) (hx : chkA x y = true) (h : step σ nm ev (.box n y) = some e) :
    Good P B w0 I0 w I ι σ D nm e (do pure (.value (← Instr.box t (ρ x)))) := by
  simp only [step] at h
  split at h
  · rename_i hlen
    cases h
    obtain ⟨hlen, hall⟩ := hlen
    obtain ⟨hcr, hone⟩ := cells_one (hev _ _ hx) hlen hn0 hall
    refine good_new (w' := w.alloc (.cells (ρ x).cells t)) (v := .pointer (some ⟨w.heap.size, 0, none⟩)) (c := (ρ x).cells) (T := t) (fz := (0, 0)) hc hn ?_ rfl (below_alloc hc _) (.inr (Nat.le_refl _)) rfl ?_ ?_ rfl ?_
    · simp [Instr.box, newVar, newRow]
    · simp [SObj.len, SObj.es, hcr.1, hlen]
    · have := oneRow hcr hone
      rw [hlen] at this
      exact this
    · exact rep_newptr (.inr rfl) (by simp [setι])
  · cases h

end
end Go.Ab

/- One operation's soundness: slice literals, made slices, bytes of strings, maps. Under: nothing. -/
namespace Go.Ab
open Go.RowKit
section
variable {P : Program} {B : Nat} {w0 : World} {I0 : Imm} {w w' : World} {I : Imm} {ι : Nat → Option Nat} {σ : Store} {D : Nat → Prop} {nm : Nat} {ρ : Operand → Value} {ev : RA → AV} {e : Eff}

theorem flat_get {α : Type} (l : List α) : ∀ (n k : Nat), k < n * l.length → (List.replicate n l).flatten[k]? = l[k % l.length]?
  | 0, k, h => by simp at h
  | n + 1, k, h => by
    rw [List.replicate_succ, List.flatten_cons]
    by_cases hk : k < l.length
    · rw [List.getElem?_append_left hk, Nat.mod_eq_of_lt hk]
    · have hpos : 0 < l.length := by
        rcases Nat.eq_zero_or_pos l.length with h0 | h0
        · rw [h0] at h; simp at h
        · exact h0
      rw [List.getElem?_append_right (by omega), flat_get l n (k - l.length) (by rw [Nat.add_mul, Nat.one_mul] at h; omega)]
      congr 1
      have : k = (k - l.length) + l.length := by omega
      rw [this, Nat.add_mod_right]; simp

theorem chop_get (es : Nat) : ∀ (n : Nat) (cs : List AV) (i : Nat), i < n → (step.chop es n cs)[i]? = some ((cs.drop (i * es)).take es)
  | 0, _, _, h => by omega
  | n + 1, cs, 0, _ => by simp [step.chop]
  | n + 1, cs, i + 1, h => by
    simp only [step.chop, List.getElem?_cons_succ]
    rw [chop_get es n _ i (by omega), List.drop_drop]
    congr 3
    rw [Nat.add_mul]; omega

theorem chop_length (es : Nat) : ∀ (n : Nat) (cs : List AV), (step.chop es n cs).length = n
  | 0, _ => rfl
  | n + 1, cs => by simp [step.chop, chop_length es n]

theorem chop_rows {c : Array Value} {cs : List AV} {es n : Nat} (h : CellsRep w I ι σ D c cs) (hall : allCells cs = true) (hl : cs.length = n * es) : RowsIn w I ι σ D c es (fun i => (step.chop es n cs)[i]?) := by
  intro i row hr
  dsimp only at hr
  have hi : i < n := by have := (List.getElem?_eq_some_iff.1 hr).1; rwa [chop_length] at this
  rw [chop_get es n cs i hi] at hr; cases hr
  have hb : i * es + es ≤ n * es := by
    calc i * es + es = (i + 1) * es := by rw [Nat.add_mul, Nat.one_mul]
      _ ≤ n * es := Nat.mul_le_mul_right _ hi
  refine ⟨by simp; omega, fun j v hv => ?_⟩
  have hj : j < es := by have := (List.getElem?_eq_some_iff.1 hv).1; simp at this; omega
  rw [List.getElem?_take_of_lt hj, List.getElem?_drop] at hv
  have hlt : i * es + j < c.size := by rw [h.1]; omega
  have hrp := h.2 _ _ _ (Array.getElem?_eq_getElem hlt) hv
  exact ⟨c[i * es + j], Array.getElem?_eq_getElem hlt, hrp.oneCell (allCells_spec hall _ (List.mem_of_getElem? hv)), hrp⟩

theorem zeros_rep {zero : Array Value} {zeros : List AV} {n es : Nat} (h : n * es ≠ 0 → CellsRep w I ι σ D zero zeros) (hl : zeros.length = es) :
    CellsRep w I ι σ D ((Array.range (n * es)).map (zero[· % zero.size]!)) (List.replicate n zeros).flatten := by
  refine ⟨by simp [hl], fun j x q hx hq => ?_⟩
  have hj : j < n * es := by have := (Array.getElem?_eq_some_iff.1 hx).1; simpa using this
  have hz := h (by omega)
  have hes : 0 < es := by rcases Nat.eq_zero_or_pos es with h0 | h0; (rw [h0] at hj; simp at hj); exact h0
  rw [flat_get zeros n j (by rw [hl]; exact hj), hl] at hq
  simp only [Array.getElem?_map, Array.getElem?_range, hj, if_true, Option.map_some, Option.some.injEq] at hx
  have hsz : zero.size = es := hz.1.trans hl
  have hm : j % es < zero.size := by rw [hsz]; exact Nat.mod_lt _ hes
  rw [hsz, getElem!_pos zero (j % es) hm] at hx
  exact hz.2 (j % es) x q (by rw [Array.getElem?_eq_getElem hm, hx]) hq

theorem fillA_length : ∀ (qs : List (Nat × Nat × AV)) (as r : List AV), fillA as qs = some r → r.length = as.length
  | [], as, r, h => by simp only [fillA] at h; cases h; rfl
  | (o, n, a) :: qs, as, r, h => by
    simp only [fillA] at h
    split at h
    · rename_i hn
      rw [fillA_length qs _ r h, setRange_length (by omega)]
    · cases h

variable (hc : Core B w0 I0 w I ι σ D) (hn : ¬ D nm) (hev : ∀ o r, chkA o r = true → RepA w I ι σ D (ρ o) (ev r))
include hc hn

theorem snd_bsl (hev : ∀ o r, chkA o r = true → RepA w I ι σ D (ρ o) (ev r)) {t el es n : Nat} {zeros : List AV} {parts : Array (Nat × Operand)} {parts' : List (Nat × RA)} (ht : P.underlying t = some (.slice el)) (hs : chkSize P el es = true)
    (hz : chkZero P el zeros = true) (hl : zeros.length = es) (hmax : n * es ≤ 2 ^ 24)
    (hp : chkParts P (fun i => some (i * es, es)) parts.toList (parts'.map fun (i, x) => (i * es, es, x)) = true) (h : step σ nm ev (.bsl es n zeros parts') = some e) :
    Good P B w0 I0 w I ι σ D nm e (do pure (.value (← Instr.buildSlice t n (parts.map fun (i, x) => (i, ρ x))))) := by
  simp only [step] at h
  split at h
  · rename_i cs hcs
    split at h
    case isFalse => cases h
    rename_i hall
    cases h
    obtain ⟨z, hzr, hzc⟩ := run_zero' hz w
    obtain ⟨e1, e2⟩ := chkParts_spec (P := P) hev _ _ hp
    have hmm : ((parts'.map fun (i, x) => (i * es, es, x)).map fun (o, n, x) => (o, n, ev x)) = parts'.map fun (i, x) => (i * es, es, ev x) := by simp [List.map_map, Function.comp_def]
    rw [hmm] at e1 e2
    have hz0 : CellsRep w I ι σ D ((Array.range (n * es)).map ((if n * es = 0 then #[] else z.cells)[· % (if n * es = 0 then #[] else z.cells).size]!)) (List.replicate n zeros).flatten :=
      zeros_rep (fun hne => by rw [if_neg hne]; exact chkVs_cells hzc) hl
    obtain ⟨c', hf, hrep⟩ := run_fill (place := fun i => some (i * es, es)) _ _ _ _ cs e1 e2 hz0 hcs
    have hcl : cs.length = n * es := by rw [fillA_length _ _ _ hcs]; simp [hl]
    obtain ⟨m1, m2, m3, m4, m5⟩ := mkObj_spec (chop_rows hrep hall hcl)
    have hlist : (parts.map fun (i, x) => (i, ρ x)).toList = parts.toList.map fun p => (p.1, ρ p.2) := by simp
    refine good_new (w' := w.alloc (.cells c' el)) (v := .slice (some ⟨w.heap.size, 0, none⟩) n n) (c := c') (T := el) (fz := (0, 0)) hc hn ?_ rfl (below_alloc hc _) (.inr (Nat.le_refl _)) m3 ?_ (by rw [m1]; exact m5) rfl ?_
    · unfold Instr.buildSlice
      simp only [Sem.run_bind, run_under ht, Result.andThen_ok, run_sizeOf' hs, Sem.run_ite, if_neg (show ¬ n * es > 2 ^ 24 by omega)]
      by_cases h0 : n * es = 0
      · simp only [if_pos h0] at hf ⊢
        simp only [Sem.run_pure, Result.andThen_ok, hlist, hf]
        simp [newRow]
      · simp only [if_neg h0] at hf ⊢
        simp only [hzr, Sem.run_pure, Result.andThen_ok, hlist, hf]
        simp [newRow]
    · rw [m1, m2, chop_length, hrep.1, hcl]; exact Nat.le_refl _
    · refine rep_newown (c := c') (T := el) (fz := (0, 0)) (.inr rfl) (by simp [setι]) (by show (w.heap.push _)[w.heap.size]? = _; simp) (by rw [m2, chop_length]) (Nat.le_refl _) (by rw [m1, hrep.1, hcl]; exact Nat.le_refl _)
  · cases h

theorem snd_mkmap {t : TypeId} (h : step σ nm ev .mkmap = some e) :
    Good P B w0 I0 w I ι σ D nm e (do pure (.value (← Instr.makeMap t none))) := by
  simp only [step] at h; cases h
  have hBw : B ≤ w.heap.size := Nat.le_trans hc.hB hc.below.size
  obtain ⟨hs, hL⟩ := hc.sims.newMap (w' := w.alloc (.map #[] 0)) hBw hn rfl
  refine ⟨_, .map (some w.heap.size), w.alloc (.map #[] 0), by simp [Instr.makeMap], .inl rfl, I, setι ι nm (some w.heap.size), addD D nm, ⟨hs, below_alloc hc _, hc.hB, hc.ext, hc.old⟩, hL, ?_, ?_⟩
  · refine .mref (.inr rfl) rfl fun o' ho' => ⟨w.heap.size, by simp [setι], rfl⟩
  · rintro b (h | rfl)
    · exact .inl h
    · exact .inr ⟨Nat.le_refl _, by simp [stride]⟩

theorem snd_mksl (hev : ∀ o r, chkA o r = true → RepA w I ι σ D (ρ o) (ev r)) {t el es bytes : Nat} {zero : List PV} {x y : Operand} {x' : RA} {ie : TypeInfo} (ht : P.underlying t = some (.slice el)) (hi : P.info? el = some ie) (hie : ie.size = es) (hby : ie.bytes = bytes)
    (hz : chkZero P el (zero.map .pv) = true) (hall : allCells (zero.map .pv) = true) (h1 : chkA x x' = true) (h2 : chkA y x' = true) (h : step σ nm ev (.mksl es bytes zero x') = some e) :
    Good P B w0 I0 w I ι σ D nm e (do pure (.value (← Instr.makeSlice t (ρ x) (ρ y)))) := by
  simp only [step] at h
  split at h
  · rename_i k hk
    split at h
    · rename_i hle
      cases h
      obtain ⟨kx, ex⟩ := idx_inv hev h1 hk
      obtain ⟨ky, ey⟩ := idx_inv hev h2 hk
      obtain ⟨z, hzr, hzc⟩ := run_zero' hz w
      have hs : chkSize P el es = true := by simp [chkSize, hi, hie]
      obtain ⟨n, rfl⟩ := Int.eq_ofNat_of_zero_le hle.1
      simp only [Int.toNat_natCast] at hle ⊢
      have hz0 := zeros_rep (w := w) (I := I) (ι := ι) (σ := σ) (D := D) (zero := if n * es = 0 then #[] else z.cells) (zeros := zero.map .pv) (n := n) (es := es) (fun hne => by rw [if_neg hne]; exact chkVs_cells hzc) (by simp [hle.2.2.1])
      have hc0 := hz0.1
      refine good_new (w' := w.alloc (.cells ((Array.range (n * es)).map ((if n * es = 0 then #[] else z.cells)[· % (if n * es = 0 then #[] else z.cells).size]!)) el)) (v := .slice (some ⟨w.heap.size, 0, none⟩) n n) (T := el) (fz := (0, 0)) hc hn ?_ rfl (below_alloc hc _) (.inr (Nat.le_refl _)) rfl ?_ ?_ rfl ?_
      · have hn40 : (n : Int) ≤ 2 ^ 40 := Int.le_trans (by
          have := Nat.mul_le_mul_left n hle.2.2.2
          rw [Nat.succ_eq_add_one, Nat.zero_add, Nat.mul_one] at this
          exact_mod_cast this) hle.2.1
        have hwrap : IntKind.i64.wrap (n : Int) = n := IntWalk.i64_in _ (by omega)
        have hbig : ¬ ((bytes : Int) * n > 2 ^ 48) := by
          have := hle.2.1
          rw [Int.mul_comm] at this
          omega
        rw [ex, ey]
        unfold Instr.makeSlice
        simp only [Sem.run_bind, run_under ht, Result.andThen_ok, asInt, asIntOf, Sem.run_pure, typeInfo, run_program, hi, hby, hwrap, Sem.run_ite]
        rw [if_neg (by simp; omega)]
        simp only [run_askRoom, Result.andThen_ok, run_sizeOf' hs, Int.toNat_natCast]
        by_cases h0 : n * es = 0
        · simp [h0, newRow]
        · simp [h0, hzr, newRow]
      · simp only [SObj.len, SObj.es, List.length_replicate]
        rw [hc0]; simp [hle.2.2.1]
      · intro i row hr
        simp only [SObj.row?, SObj.es] at hr ⊢
        split at hr
        · rename_i p hp
          cases hr
          have hi' : i < n := by have := (List.getElem?_eq_some_iff.1 hp).1; simpa using this
          rw [List.getElem?_replicate_of_lt hi'] at hp; cases hp
          refine ⟨by simp [hle.2.2.1], fun j v hv => ?_⟩
          have hj : j < es := by have := (List.getElem?_eq_some_iff.1 hv).1; simpa [hle.2.2.1] using this
          have hb : i * es + es ≤ n * es := by
            calc i * es + es = (i + 1) * es := by rw [Nat.add_mul, Nat.one_mul]
              _ ≤ n * es := Nat.mul_le_mul_right _ hi'
          have hlt : i * es + j < ((Array.range (n * es)).map ((if n * es = 0 then #[] else z.cells)[· % (if n * es = 0 then #[] else z.cells).size]!)).size := by simp; omega
          have hrp := hz0.2 (i * es + j) _ v (Array.getElem?_eq_getElem hlt) (by
            rw [flat_get _ n _ (by simp [hle.2.2.1]; omega)]
            simp only [List.length_map, hle.2.2.1]
            rw [Nat.mul_comm i es, Nat.mul_add_mod, Nat.mod_eq_of_lt hj]
            exact hv)
          exact ⟨_, Array.getElem?_eq_getElem hlt, hrp.oneCell (allCells_spec hall v (List.mem_of_getElem? hv)), hrp⟩
        · cases hr
      · refine rep_newown (T := el) (fz := (0, 0)) (.inr rfl) (by simp [setι]) (by show (w.heap.push _)[w.heap.size]? = _; rw [Array.getElem?_push_size]) (by simp [SObj.len]) (Nat.le_refl _) (by simp [SObj.es])
    · cases h
  · cases h

end
end Go.Ab
