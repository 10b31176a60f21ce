/- One operation's soundness: maps, bytes of a string, copy. Under: nothing. -/
import Derived.Test.YtdmfppodbpfbpaaAb20
namespace Go.Ab
open Go.RowKit
section
variable {P : Program} {B : Nat} {w0 : World} {I0 : Imm} {w w' : World} {I : Imm} {ι : Nat → Option Nat} {σ : Store} {D : Nat → Prop} {nm : Nat} {ρ : Operand → Value} {ev : RA → AV} {e : Eff}

theorem beq_string (a b : List UInt8) : ((ByteArray.mk a.toArray) == (ByteArray.mk b.toArray)) = (a == b) := by rw [beq_toListBytes, list_beq]

theorem findNow_spec (k : List UInt8) : ∀ (es : List MapEntry) (ents : List (List UInt8 × AV)) (i : Nat), es.length = ents.length →
    (∀ (j : Nat) (e : MapEntry) (a : List UInt8) (v : AV), es[j]? = some e → ents[j]? = some (a, v) → e.key = .string ⟨a.toArray⟩ ∧ RepA w I ι σ D e.val v) →
    (match lookupE k ents with
     | none => Instr.findNow .string (.string ⟨k.toArray⟩) es i = some none
     | some v => ∃ j x, Instr.findNow .string (.string ⟨k.toArray⟩) es i = some (some (j, x)) ∧ RepA w I ι σ D x v)
  | [], [], i, _, _ => by simp [lookupE, Instr.findNow]
  | e :: es, (a, v) :: ents, i, hl, h => by
    obtain ⟨h1, h2⟩ := h 0 e a v rfl rfl
    simp only [lookupE]
    have hs : Instr.sameNow .string (.string ⟨k.toArray⟩) e.key = some (k == a) := by rw [h1]; simp only [Instr.sameNow, beq_string]
    by_cases hk : a = k
    · subst hk
      simp only [beq_self_eq_true, if_true]
      exact ⟨i, e.val, by simp [Instr.findNow, hs], h2⟩
    · have h3 : (a == k) = false := by simpa using hk
      have h4 : (k == a) = false := by simpa using fun e => hk e.symm
      simp only [h3, Bool.false_eq_true, if_false]
      have := findNow_spec k es ents (i + 1) (by simpa using hl) (fun j e a v g1 g2 => h (j + 1) e a v (by simpa using g1) (by simpa using g2))
      simp only [Instr.findNow, hs, h4]
      exact this
  | [], _ :: _, _, hl, _ => by simp at hl
  | _ :: _, [], _, hl, _ => by simp at hl

theorem run_checkKey {em : Bool} {kt : Nat} (hk : P.underlying kt = some .string) (n : Nat) (s : ByteArray) (w : World) : (Instr.checkKey em (n + 1) kt (.string s)).run P w = .ok () w := by
  simp only [Instr.checkKey, Sem.run_bind, run_under hk, Result.andThen_ok]; rfl

def chkZero1 (P : Program) (t : Nat) (a : AV) : Bool := match P.info? t with
  | some i => (match i.zero with | some z => chkV0 z a | none => false)
  | none => false

theorem run_zero1 {t : Nat} {a : AV} (h : chkZero1 P t a = true) (w : World) : ∃ z, (zeroValue t).run P w = .ok z w ∧ chkV0 z a = true := by
  unfold chkZero1 at h
  split at h
  · rename_i i hi
    split at h
    · rename_i z hz
      exact ⟨z, by simp [zeroValue, typeInfo, hi, hz], h⟩
    · cases h
  · cases h

variable (hc : Core B w0 I0 w I ι σ D) (hev : ∀ o r, chkA o r = true → RepA w I ι σ D (ρ o) (ev r))
include hc hev

omit hev in
theorem map_inv {b : Nat} {ents : List (List UInt8 × AV)} {v : Value} (hf : find σ b = some (.map ents)) (hv : RepA w I ι σ D v (.mref b)) :
    ∃ (r : Nat) (es : Array MapEntry) (clock : Nat), v = .map (some r) ∧ ι b = some r ∧ w.heap[r]? = some (Obj.map es clock) ∧ es.size = ents.length ∧
      ∀ (i : Nat) (e : MapEntry) (k : List UInt8) (v : AV), es[i]? = some e → ents[i]? = some (k, v) → e.key = .string ⟨k.toArray⟩ ∧ RepA w I ι σ D e.val v := by
  cases hv with
  | mref hD hone hv =>
    obtain ⟨r, hr, rfl⟩ := hv _ hf
    obtain ⟨r', es, cl, k1, k2, k3, k4⟩ := hc.sims.obj b _ hf
    rw [hr] at k1; cases k1
    exact ⟨r, es, cl, rfl, hr, k2, k3, k4⟩

theorem snd_lookup {t kt et : Nat} {m k : Operand} {m' k' : RA} {zero : AV} (ht : P.underlying t = some (.map kt et)) (hk : P.underlying kt = some .string) (hz : chkZero1 P et zero = true) (h1 : chkA m m' = true) (h2 : chkA k k' = true)
    (h : step σ nm ev (.lookup m' k' zero) = some e) : Good P B w0 I0 w I ι σ D nm e (do pure (.value (← Instr.lookup t (ρ m) (ρ k) true))) := by
  simp only [step] at h
  split at h
  · rename_i b s hb hs
    split at h
    · rename_i ents hf
      have hm := hev _ _ h1
      rw [hb] at hm
      obtain ⟨r, es, cl, em, hr, hheap, hsz, hent⟩ := map_inv hc hf hm
      have hkey := rep_str hev h2 hs
      have hfn := findNow_spec (w := w) (I := I) (ι := ι) (σ := σ) (D := D) s es.toList ents 0 (by simpa using hsz) (fun j e a v g1 g2 => hent j e a v (by simpa using g1) g2)
      obtain ⟨z, hzr, hzc⟩ := run_zero1 hz w
      have hzv : RepA w I ι σ D z zero := chkV0_rep hzc
      have hget : (getObj r).run P w = .ok (.map es cl) w := by simp [getObj, Sem.run, hheap]
      have hchk : (Instr.checkKey es.isEmpty 10000 kt (.string ⟨s.toArray⟩)).run P w = .ok () w := by
        exact run_checkKey hk 9999 _ w
      cases hl : lookupE s ents with
      | none =>
        rw [hl] at hfn
        simp only [hl] at h; cases h
        refine good_same (v := .tuple #[z, .bool false]) hc ?_ rfl ?_
        · rw [em, hkey]
          simp [Instr.lookup, run_under ht, hget, hchk, Instr.findKey, run_under hk, hfn, hzr]
        · refine .tup rfl fun j x q hx hq => ?_
          match j with
          | 0 => simp at hx hq; subst hx; subst hq; exact hzv
          | 1 => simp at hx hq; subst hx; subst hq; exact .pv (.bool _)
          | j + 2 => simp at hq
      | some v =>
        rw [hl] at hfn
        obtain ⟨j0, x0, hfn, hrep⟩ := hfn
        simp only [hl] at h; cases h
        refine good_same (v := .tuple #[x0, .bool true]) hc ?_ rfl ?_
        · rw [em, hkey]
          simp [Instr.lookup, run_under ht, hget, hchk, Instr.findKey, run_under hk, hfn]
        · refine .tup rfl fun j x q hx hq => ?_
          match j with
          | 0 => simp at hx hq; subst hx; subst hq; exact hrep
          | 1 => simp at hx hq; subst hx; subst hq; exact .pv (.bool _)
          | j + 2 => simp at hq
    · cases h
  · cases h

theorem snd_insert {t kt et : Nat} {m k x : Operand} {m' k' x' : RA} (ht : P.underlying t = some (.map kt et)) (hk : P.underlying kt = some .string) (h1 : chkA m m' = true) (h2 : chkA k k' = true) (h3 : chkA x x' = true)
    (h : step σ nm ev (.insert m' k' x') = some e) : Good P B w0 I0 w I ι σ D nm e (do Instr.mapUpdate t (ρ m) (ρ k) (ρ x); pure .skip) := by
  simp only [step] at h
  split at h
  · rename_i b s hb hs
    split at h
    · rename_i ents hf
      split at h
      · rename_i hl
        cases h
        have hm := hev _ _ h1
        rw [hb] at hm
        obtain ⟨r, es, cl, em, hr, hheap, hsz, hent⟩ := map_inv hc hf hm
        have hkey := rep_str hev h2 hs
        have hfn := findNow_spec (w := w) (I := I) (ι := ι) (σ := σ) (D := D) s es.toList ents 0 (by simpa using hsz) (fun j e a v g1 g2 => hent j e a v (by simpa using g1) g2)
        rw [hl] at hfn
        have hlt : r < w.heap.size := (Array.getElem?_eq_some_iff.1 hheap).1
        have hget : (getObj r).run P w = .ok (.map es cl) w := by simp [getObj, Sem.run, hheap]
        have hset : ∀ o, (setObj r o).run P w = .ok () { w with heap := w.heap.setIfInBounds r o } := fun o => by simp [setObj, Sem.run, hheap]
        have hchk : (Instr.checkKey false 10000 kt (.string ⟨s.toArray⟩)).run P w = .ok () w := by
          exact run_checkKey hk 9999 _ w
        let w' : World := { w with heap := w.heap.setIfInBounds r (.map (es.push { key := .string ⟨s.toArray⟩, val := ρ x, born := cl }) (cl + 1)) }
        have ho : ∀ k, k ≠ r → w'.heap[k]? = w.heap[k]? := fun k hk => by
          show (w.heap.setIfInBounds r _)[k]? = _
          rw [Array.getElem?_setIfInBounds_ne (Ne.symm hk)]
        have hgB : B ≤ r := hc.sims.ge b _ r hf hr
        have hbel : Below B w0 w' := ⟨hc.below.os, hc.below.tape, hc.below.output, by show _ ≤ (w.heap.setIfInBounds r _).size; rw [Array.size_setIfInBounds]; exact hc.below.size, fun k hk => (ho k (by omega)).trans (hc.below.block k hk)⟩
        obtain ⟨hS, hL⟩ := hc.sims.putMap (w' := w') (e := { key := .string ⟨s.toArray⟩, val := ρ x, born := cl }) hf hr hheap rfl (hev _ _ h3) (by show (w.heap.setIfInBounds r _)[r]? = _; simp [hlt]) (by show (w.heap.setIfInBounds r _).size = _; simp) ho
        refine ⟨.skip, undef, w', ?_, .inr ⟨rfl, rfl⟩, I, ι, D, ⟨hS, hbel, hc.hB, hc.ext, hc.old⟩, hL, .undef _, fun _ h => .inl h⟩
        rw [em, hkey]
        simp [Instr.mapUpdate, run_under ht, hget, hchk, Instr.findKey, run_under hk, hfn, hset, w']
      · cases h
    · cases h
  · cases h

end
end Go.Ab
