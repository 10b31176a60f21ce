/- One operation's soundness: maps, bytes of a string, copy. Under: nothing. -/
import Derived.Test.YthpnccneaaeomaaAb20
namespace Go.Ab
open Go.RowKit
section
variable {P : Program} {B : Nat} {w0 : World} {I0 : Imm} {w w' : World} {I : Imm} {ι : Nat → Option Nat} {σ : Store} {D : Nat → Prop} {nm : Nat} {ρ : Operand → Value} {ev : RA → AV} {e : Eff}

theorem beq_string (a b : List UInt8) : ((ByteArray.mk a.toArray) == (ByteArray.mk b.toArray)) = (a == b) := by rw [beq_toListBytes, list_beq]

theorem findNow_spec (k : List UInt8) (ents : List (List UInt8 × AV)) : ∀ (es : List MapEntry) (i : Nat),
    (∀ e ∈ es, ∃ k v, e.key = .string ⟨k.toArray⟩ ∧ lookupE k ents = some v ∧ RepA w I ι σ D e.val v) →
    ((∀ e ∈ es, e.key ≠ .string ⟨k.toArray⟩) ∧ Instr.findNow .string (.string ⟨k.toArray⟩) es i = some none) ∨
    ∃ j x v, Instr.findNow .string (.string ⟨k.toArray⟩) es i = some (some (j, x)) ∧ lookupE k ents = some v ∧ RepA w I ι σ D x v
  | [], i, _ => .inl ⟨fun e he => by simp at he, by simp [Instr.findNow]⟩
  | e :: es, i, h => by
    obtain ⟨a, v, h1, h2, h3⟩ := h e (by simp)
    have hs : Instr.sameNow .string (.string ⟨k.toArray⟩) e.key = some (k == a) := by rw [h1]; simp only [Instr.sameNow, beq_string]
    by_cases hk : k = a
    · subst hk
      exact .inr ⟨i, e.val, v, by simp [Instr.findNow, hs], h2, h3⟩
    · have h4 : (k == a) = false := by simpa using hk
      rcases findNow_spec k ents es (i + 1) (fun e he => h e (by simp [he])) with ⟨g1, g2⟩ | ⟨j, x, v', g1, g2, g3⟩
      · refine .inl ⟨fun e' he' => ?_, by simp only [Instr.findNow, hs, h4]; exact g2⟩
        rcases List.mem_cons.1 he' with rfl | he'
        · rw [h1]
          intro heq
          have : k.toArray = a.toArray := by injection heq with heq; injection heq with heq; exact heq.symm
          exact hk (by simpa using congrArg Array.toList this)
        · exact g1 e' he'
      · exact .inr ⟨j, x, v', by simp only [Instr.findNow, hs, h4]; exact g1, g2, g3⟩

theorem findNow_none {k : List UInt8} {ents : List (List UInt8 × AV)} {es : List MapEntry} {i : Nat} (h : ∀ e ∈ es, ∃ k v, e.key = .string ⟨k.toArray⟩ ∧ lookupE k ents = some v ∧ RepA w I ι σ D e.val v) (hl : lookupE k ents = none) : Instr.findNow .string (.string ⟨k.toArray⟩) es i = some none := by
  rcases findNow_spec k ents es i h with ⟨_, g⟩ | ⟨_, _, _, _, g, _⟩
  · exact g
  · rw [hl] at g; cases g

theorem findNow_some {k : List UInt8} {ents : List (List UInt8 × AV)} {es : List MapEntry} {i : Nat} {v : AV} (h : ∀ e ∈ es, ∃ k v, e.key = .string ⟨k.toArray⟩ ∧ lookupE k ents = some v ∧ RepA w I ι σ D e.val v)
    (h' : ∀ k v, lookupE k ents = some v → ∃ e ∈ es, e.key = .string ⟨k.toArray⟩) (hl : lookupE k ents = some v) : ∃ j x, Instr.findNow .string (.string ⟨k.toArray⟩) es i = some (some (j, x)) ∧ RepA w I ι σ D x v := by
  rcases findNow_spec k ents es i h with ⟨g, _⟩ | ⟨j, x, v', g1, g2, g3⟩
  · obtain ⟨e, he, hk⟩ := h' k v hl; exact absurd hk (g e he)
  · rw [hl] at g2; cases g2; exact ⟨j, x, g1, g3⟩

theorem run_checkKey {em : Bool} {kt : Nat} (hk : P.underlying kt = some .string) (n : Nat) (s : ByteArray) (w : World) : (Instr.checkKey em (n + 1) kt (.string s)).run P w = .ok () w := by
  simp only [Instr.checkKey, Sem.run_bind, run_under hk, Result.andThen_ok]; rfl

def chkZero1 (P : Program) (t : Nat) (a : AV) : Bool := match P.info? t with
  | some i => (match i.zero with | some z => chkV0 z a | none => false)
  | none => false

theorem run_zero1 {t : Nat} {a : AV} (h : chkZero1 P t a = true) (w : World) : ∃ z, (zeroValue t).run P w = .ok z w ∧ chkV0 z a = true := by
  unfold chkZero1 at h
  split at h
  · rename_i i hi
    split at h
    · rename_i z hz
      exact ⟨z, by simp [zeroValue, typeInfo, hi, hz], h⟩
    · cases h
  · cases h

variable (hc : Core B w0 I0 w I ι σ D) (hev : ∀ o r, chkA o r = true → RepA w I ι σ D (ρ o) (ev r))
include hc hev

omit hev in
theorem map_inv {b : Nat} {ents : List (List UInt8 × AV)} {v : Value} (hf : find σ b = some (.map ents)) (hv : RepA w I ι σ D v (.mref b)) :
    ∃ (r : Nat) (es : Array MapEntry) (clock : Nat), v = .map (some r) ∧ ι b = some r ∧ w.heap[r]? = some (Obj.map es clock) ∧
      (∀ e ∈ es.toList, ∃ k v, e.key = .string ⟨k.toArray⟩ ∧ lookupE k ents = some v ∧ RepA w I ι σ D e.val v) ∧ ∀ k v, lookupE k ents = some v → ∃ e ∈ es.toList, e.key = .string ⟨k.toArray⟩ := by
  cases hv with
  | mref hD hone hv =>
    obtain ⟨r, hr, rfl⟩ := hv _ hf
    obtain ⟨r', es, cl, k1, k2, k3, k4⟩ := hc.sims.obj b _ hf
    rw [hr] at k1; cases k1
    exact ⟨r, es, cl, rfl, hr, k2, k3, k4⟩

theorem snd_lookup {t kt et : Nat} {m k : Operand} {m' k' : RA} {zero : AV} (ht : P.underlying t = some (.map kt et)) (hk : P.underlying kt = some .string) (hz : chkZero1 P et zero = true) (h1 : chkA m m' = true) (h2 : chkA k k' = true)
    (h : step σ nm ev (.lookup m' k' zero) = some e) : Good P B w0 I0 w I ι σ D nm e (do pure (.value (← Instr.lookup t (ρ m) (ρ k) true))) := by
  simp only [step] at h
  split at h
  · rename_i b s hb hs
    split at h
    · rename_i ents hf
      have hm := hev _ _ h1
      rw [hb] at hm
      obtain ⟨r, es, cl, em, hr, hheap, hent, hall⟩ := map_inv hc hf hm
      have hkey := rep_str hev h2 hs
      obtain ⟨z, hzr, hzc⟩ := run_zero1 hz w
      have hzv : RepA w I ι σ D z zero := chkV0_rep hzc
      have hget : (getObj r).run P w = .ok (.map es cl) w := by simp [getObj, Sem.run, hheap]
      have hchk : (Instr.checkKey es.isEmpty 10000 kt (.string ⟨s.toArray⟩)).run P w = .ok () w := by
        exact run_checkKey hk 9999 _ w
      cases hl : lookupE s ents with
      | none =>
        have hfn := findNow_none (k := s) (i := 0) hent hl
        simp only [hl] at h; cases h
        refine good_same (v := .tuple #[z, .bool false]) hc ?_ rfl ?_
        · rw [em, hkey]
          simp [Instr.lookup, run_under ht, hget, hchk, Instr.findKey, run_under hk, hfn, hzr]
        · refine .tup rfl fun j x q hx hq => ?_
          match j with
          | 0 => simp at hx hq; subst hx; subst hq; exact hzv
          | 1 => simp at hx hq; subst hx; subst hq; exact .pv (.bool _)
          | j + 2 => simp at hq
      | some v =>
        obtain ⟨j0, x0, hfn, hrep⟩ := findNow_some (k := s) (i := 0) hent hall hl
        simp only [hl] at h; cases h
        refine good_same (v := .tuple #[x0, .bool true]) hc ?_ rfl ?_
        · rw [em, hkey]
          simp [Instr.lookup, run_under ht, hget, hchk, Instr.findKey, run_under hk, hfn]
        · refine .tup rfl fun j x q hx hq => ?_
          match j with
          | 0 => simp at hx hq; subst hx; subst hq; exact hrep
          | 1 => simp at hx hq; subst hx; subst hq; exact .pv (.bool _)
          | j + 2 => simp at hq
    · cases h
  · cases h

theorem snd_insert {t kt et : Nat} {m k x : Operand} {m' k' x' : RA} (ht : P.underlying t = some (.map kt et)) (hk : P.underlying kt = some .string) (h1 : chkA m m' = true) (h2 : chkA k k' = true) (h3 : chkA x x' = true)
    (h : step σ nm ev (.insert m' k' x') = some e) : Good P B w0 I0 w I ι σ D nm e (do Instr.mapUpdate t (ρ m) (ρ k) (ρ x); pure .skip) := by
  simp only [step] at h
  split at h
  · rename_i b s hb hs
    split at h
    · rename_i ents hf
      split at h
      · rename_i hl
        cases h
        have hm := hev _ _ h1
        rw [hb] at hm
        obtain ⟨r, es, cl, em, hr, hheap, hent, hall⟩ := map_inv hc hf hm
        have hkey := rep_str hev h2 hs
        have hfn := findNow_none (k := s) (i := 0) hent hl
        have hlt : r < w.heap.size := (Array.getElem?_eq_some_iff.1 hheap).1
        have hget : (getObj r).run P w = .ok (.map es cl) w := by simp [getObj, Sem.run, hheap]
        have hset : ∀ o, (setObj r o).run P w = .ok () { w with heap := w.heap.setIfInBounds r o } := fun o => by simp [setObj, Sem.run, hheap]
        have hchk : (Instr.checkKey false 10000 kt (.string ⟨s.toArray⟩)).run P w = .ok () w := by
          exact run_checkKey hk 9999 _ w
        let w' : World := { w with heap := w.heap.setIfInBounds r (.map (es.push { key := .string ⟨s.toArray⟩, val := ρ x, born := cl }) (cl + 1)) }
        have ho : ∀ k, k ≠ r → w'.heap[k]? = w.heap[k]? := fun k hk => by
          show (w.heap.setIfInBounds r _)[k]? = _
          rw [Array.getElem?_setIfInBounds_ne (Ne.symm hk)]
        have hgB : B ≤ r := hc.sims.ge b _ r hf hr
        have hbel : Below B w0 w' := ⟨hc.below.os, hc.below.tape, hc.below.output, by show _ ≤ (w.heap.setIfInBounds r _).size; rw [Array.size_setIfInBounds]; exact hc.below.size, fun k hk => (ho k (by omega)).trans (hc.below.block k hk)⟩
        obtain ⟨hS, hL⟩ := hc.sims.putMap (w' := w') (e := { key := .string ⟨s.toArray⟩, val := ρ x, born := cl }) hf hr hheap hl rfl (hev _ _ h3) (by show (w.heap.setIfInBounds r _)[r]? = _; simp [hlt]) (by show (w.heap.setIfInBounds r _).size = _; simp) ho
        refine ⟨.skip, undef, w', ?_, .inr ⟨rfl, rfl⟩, I, ι, D, ⟨hS, hbel, hc.hB, hc.ext, hc.old⟩, hL, .undef _, fun _ h => .inl h⟩
        rw [em, hkey]
        simp [Instr.mapUpdate, run_under ht, hget, hchk, Instr.findKey, run_under hk, hfn, hset, w']
      · cases h
    · cases h
  · cases h

end
end Go.Ab
