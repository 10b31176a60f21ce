/- One operation's soundness: those that touch no memory. Under: nothing. -/
import Derived.Test.YthpnccneaaeomaaAb6
namespace Go.Ab
open Go.RowKit
section
variable {P : Program} {B : Nat} {w0 : World} {I0 : Imm} {w : World} {I : Imm} {ι : Nat → Option Nat} {σ : Store} {D : Nat → Prop} {nm : Nat} {ρ : Operand → Value} {ev : RA → AV} {e : Eff}
variable (hc : Core B w0 I0 w I ι σ D) (hev : ∀ o r, chkA o r = true → RepA w I ι σ D (ρ o) (ev r))
include hc hev

theorem snd_mv {x : Operand} {y : RA} (hx : chkA x y = true) (h : step σ nm ev (.mv y) = some e) : Good P B w0 I0 w I ι σ D nm e (pure (.value (ρ x))) := by
  simp only [step, Eff.of] at h; cases h
  exact good_same hc rfl rfl (hev x y hx)

theorem snd_pick {c a b : Operand} {c' a' b' : RA} (h1 : chkA c c' = true) (h2 : chkA a a' = true) (h3 : chkA b b' = true) (h : step σ nm ev (.pick c' a' b') = some e) :
    Good P B w0 I0 w I ι σ D nm e (do pure (.value (if ← asBool (ρ c) then ρ a else ρ b))) := by
  simp only [step] at h
  split at h
  · rename_i x hx
    simp only [Eff.of] at h; cases h
    refine good_same (v := if x then ρ a else ρ b) hc (by simp [rep_bool hev h1 hx, asBool]) rfl ?_
    cases x
    · exact hev b b' h3
    · exact hev a a' h2
  · cases h

theorem snd_not {x : Operand} {y : RA} (hx : chkA x y = true) (h : step σ nm ev (.not y) = some e) : Good P B w0 I0 w I ι σ D nm e (do pure (.value (← Op.unary .not (ρ x)))) := by
  simp only [step] at h
  split at h
  · rename_i b hb
    simp only [Eff.of] at h; cases h
    exact good_same (v := .bool !b) hc (by simp [rep_bool hev hx hb, Op.unary]) rfl (.pv (.bool _))
  · cases h

theorem snd_neg {x : Operand} {y : RA} (hx : chkA x y = true) (h : step σ nm ev (.neg y) = some e) : Good P B w0 I0 w I ι σ D nm e (do pure (.value (← Op.unary .neg (ρ x)))) := by
  simp only [step] at h
  split at h
  · rename_i k n hb
    simp only [Eff.of] at h; cases h
    exact good_same (v := .int k (k.wrap (0 - n))) hc (by simp [rep_int hev hx hb, Op.unary, Op.intArith]) rfl (.pv (.int _ _))
  · cases h

theorem snd_conv {x : Operand} {y : RA} {s d : TypeId} {k : IntKind} {ds : TypeDesc} (hs : P.underlying s = some ds) (hd : P.underlying d = some (.int k)) (hx : chkA x y = true) (h : step σ nm ev (.conv k y) = some e) :
    Good P B w0 I0 w I ι σ D nm e (do pure (.value (← convert s d (ρ x)))) := by
  simp only [step] at h
  split at h
  · rename_i k' n hb
    simp only [Eff.of] at h; cases h
    refine good_same (v := .int k (k.wrap n)) hc ?_ rfl (.pv (.int _ _))
    rw [rep_int hev hx hb]
    simp [convert, run_under hs, run_under hd, Conv.intToInt]
  · cases h

theorem snd_same {x : Operand} {y : RA} {s d : TypeId} {ds : TypeDesc} (hs : P.underlying s = some ds) (hd : P.underlying d = some .string) (hx : chkA x y = true) (h : step σ nm ev (.same y) = some e) :
    Good P B w0 I0 w I ι σ D nm e (do pure (.value (← convert s d (ρ x)))) := by
  simp only [step] at h
  split at h
  · rename_i l hb
    simp only [Eff.of] at h; cases h
    refine good_same (v := .string ⟨l.toArray⟩) hc ?_ rfl (.pv (.str' (by simp)))
    rw [rep_str hev hx hb]
    simp [convert, run_under hs, run_under hd]
  · cases h

theorem snd_mkf {fn : Fn} {xs ys : Array Operand} {xs' ys' : List RA} (h1 : chkAs xs.toList xs' = true) (h2 : chkAs ys.toList ys' = true) (h : step σ nm ev (.mkf fn xs' ys') = some e) :
    Good P B w0 I0 w I ι σ D nm e (do pure (.value (← Instr.makeFunc fn (xs.map ρ) (ys.map ρ)))) := by
  simp only [step, Eff.of] at h; cases h
  refine good_same (v := .func fn (xs.map ρ) (ys.map ρ)) hc (by simp [Instr.makeFunc]) rfl ?_
  obtain ⟨e1, r1⟩ := chkAs_rep hev h1
  obtain ⟨e2, r2⟩ := chkAs_rep hev h2
  refine .func (by simpa using e1) (by simpa using e2) (fun j x q hx hq => ?_) (fun j x q hx hq => ?_)
  · simp only [Array.getElem?_map, Option.map_eq_some_iff, List.getElem?_map] at hx hq
    obtain ⟨x', hx', rfl⟩ := hx
    obtain ⟨q', hq', rfl⟩ := hq
    exact r1 j x' q' (by simpa using hx') hq'
  · simp only [Array.getElem?_map, Option.map_eq_some_iff, List.getElem?_map] at hx hq
    obtain ⟨x', hx', rfl⟩ := hx
    obtain ⟨q', hq', rfl⟩ := hq
    exact r2 j x' q' (by simpa using hx') hq'

omit hev in
theorem snd_alen {n : Nat} {x : Operand} {t : TypeId} {el : TypeId} (ht : P.underlying t = some (.array n el)) (h : step σ nm ev (.alen n) = some e) :
    Good P B w0 I0 w I ι σ D nm e (do pure (.value (← Builtin.len_ #[t] 0 #[ρ x]))) := by
  simp only [step, Eff.of] at h; cases h
  exact good_same (v := goInt n) hc (by simp [Builtin.len_, run_under ht]) rfl (.pv (.int _ _))

theorem snd_strlen {x : Operand} {y : RA} {t ty : TypeId} (ht : P.underlying t = some .string) (hx : chkA x y = true) (h : step σ nm ev (.strlen y) = some e) :
    Good P B w0 I0 w I ι σ D nm e (do pure (.value (← Builtin.len_ #[t] ty #[ρ x]))) := by
  simp only [step] at h
  split at h
  · rename_i l hb
    simp only [Eff.of] at h; cases h
    refine good_same (v := goInt l.length) hc ?_ rfl (.pv (.int _ _))
    rw [rep_str hev hx hb]
    have hsz : (ByteArray.mk l.toArray).size = l.length := by simp [ByteArray.size]
    unfold Builtin.len_
    simp [run_under ht, hsz]
  · cases h

omit hc in
theorem optIdx_run {o : Option Operand} {r : Option RA} {d i : Int} (hx : chkO o r = true) (h : optIdx ev d r = some i) : (o = none ∧ i = d) ∨ ∃ x k, o = some x ∧ ρ x = .int k i := by
  cases o <;> cases r <;> simp only [chkO] at hx <;> try cases hx
  · simp only [optIdx] at h; cases h; exact .inl ⟨rfl, rfl⟩
  · rename_i x y
    simp only [optIdx] at h
    refine .inr ⟨x, ?_⟩
    cases hy : ev y with
    | pv p =>
      cases p <;> rw [hy] at h <;> simp only [idxOf] at h <;> cases h
      rename_i k
      exact ⟨k, rfl, rep_int hev hx hy⟩
    | _ => rw [hy] at h; simp [idxOf] at h

omit hc hev in
theorem run_sliceBound {x : Value} {k : IntKind} {i : Int} {y : Nat} {code : BoundsCode} (hx : x = .int k i) (h0 : 0 ≤ i) (h1 : i ≤ y) (w : World) :
    (Instr.sliceBound x y code).run P w = .ok i.toNat w := by
  subst hx
  simp [Instr.sliceBound, asIntOf, h0, h1]

end
end Go.Ab
