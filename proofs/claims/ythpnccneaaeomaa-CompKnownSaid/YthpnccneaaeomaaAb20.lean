/- One operation's soundness: copy, maps, least and greatest, bytes and strings. Under: nothing. -/
import Derived.Test.YthpnccneaaeomaaAb19
namespace Go.Ab
open Go.RowKit
section
variable {P : Program} {B : Nat} {w0 : World} {I0 : Imm} {w w' : World} {I : Imm} {ι : Nat → Option Nat} {σ : Store} {D : Nat → Prop} {nm : Nat} {ρ : Operand → Value} {ev : RA → AV} {e : Eff}

theorem find_upS_self {b : Nat} {o : SObj} : ∀ {σ : Store}, find σ b = some o → find (upS σ b (some o)) = find σ := by
  intro σ h
  funext b'
  rw [find_upS]
  by_cases e : b' = b
  · rw [if_pos e, e, h]
  · rw [if_neg e]

variable (hc : Core B w0 I0 w I ι σ D) (hev : ∀ o r, chkA o r = true → RepA w I ι σ D (ρ o) (ev r))
include hc hev

omit hc in
theorem mm_run {isMax : Bool} : ∀ (l : List Operand) (m : List RA) (v : Value) (a r : AV), chkAs l m = true → mmF isMax ev a m = some r → RepA w I ι σ D v a →
    ∃ v', ((l.map ρ).foldlM (if isMax then Builtin.max2 else Builtin.min2) v).run P w = .ok v' w ∧ RepA w I ι σ D v' r
  | [], [], v, a, r, _, h, hv => by simp only [mmF] at h; cases h; exact ⟨v, by simp, hv⟩
  | o :: l, x :: m, v, a, r, hk, h, hv => by
    simp only [chkAs, Bool.and_eq_true] at hk
    simp only [mmF] at h
    split at h
    · rename_i r' hr'
      have ho := hev _ _ hk.1
      unfold mm2 at hr'
      split at hr'
      · rename_i k a' k' b' hb
        split at hr'
        · rename_i hkk
          subst hkk
          cases hr'
          have hvi := inv_int hv
          have hoi := rep_int hev hk.1 hb
          obtain ⟨v', h1, h2⟩ := mm_run l m (.int k (if isMax then (if b' > a' then b' else a') else (if b' < a' then b' else a'))) _ r hk.2 h (.pv (.int _ _))
          refine ⟨v', ?_, h2⟩
          rw [List.map_cons, List.foldlM_cons, hvi, hoi]
          cases isMax
          · simp only [Bool.false_eq_true, if_false, Builtin.min2, Sem.run_bind, Sem.run_pure, Result.andThen_ok] at h1 ⊢
            exact h1
          · simp only [if_true, Builtin.max2, Sem.run_bind, Sem.run_pure, Result.andThen_ok] at h1 ⊢
            exact h1
        · cases hr'
      · cases hr'
    · cases h
  | [], _ :: _, _, _, _, hk, _, _ => by simp [chkAs] at hk
  | _ :: _, [], _, _, _, hk, _, _ => by simp [chkAs] at hk

theorem snd_mm {isMax : Bool} {xs : Array Operand} {xs' : List RA} {ts : Array TypeId} {ty : TypeId} (hk : chkAs xs.toList xs' = true) (h : step σ nm ev (.mm isMax xs') = some e) :
    Good P B w0 I0 w I ι σ D nm e (do pure (.value (← (if isMax then Builtin.max_ ts ty (xs.map ρ) else Builtin.min_ ts ty (xs.map ρ))))) := by
  simp only [step] at h
  split at h
  · cases h
  · rename_i x l
    split at h
    · rename_i v hv
      simp only [Eff.of] at h; cases h
      obtain ⟨xl, rfl⟩ : ∃ xl, xs = List.toArray xl := ⟨xs.toList, by simp⟩
      match xl, hk with
      | o :: ol, hk =>
        simp only [chkAs, Bool.and_eq_true] at hk
        obtain ⟨v', h1, h2⟩ := mm_run (P := P) hev (isMax := isMax) ol l (ρ o) (ev x) v hk.2 hv (hev _ _ hk.1)
        refine good_same (v := v') hc ?_ rfl h2
        cases isMax
        · simp only [Bool.false_eq_true, if_false] at h1 ⊢
          simp only [Builtin.min_, List.map_toArray, List.map_cons, Sem.run_bind, h1, Result.andThen_ok, Sem.run_pure]
        · simp only [if_true] at h1 ⊢
          simp only [Builtin.max_, List.map_toArray, List.map_cons, Sem.run_bind, h1, Result.andThen_ok, Sem.run_pure]
    · cases h

omit hc hev in
theorem bytes_run {rows : List (List PV)} {s : List UInt8} : bytesOfRows rows = some s → ∀ (cs : List Value), cs.length = rows.length →
    (∀ (i : Nat) (row : List PV) (q : PV), rows[i]? = some row → row[0]? = some q → ∃ x, cs[i]? = some x ∧ RepP w I x q) →
    ∀ (acc : List UInt8), (forIn cs (ByteArray.mk acc.toArray) (fun c (r : ByteArray) => (match c with | .int .u8 n => pure (ForInStep.yield (r.push (UInt8.ofNat n.toNat))) | _ => (do (stuck "bytesToString: byte expected" : Sem PUnit); pure (ForInStep.yield r)) : Sem (ForInStep ByteArray)))).run P w = .ok (ByteArray.mk (acc ++ s).toArray) w := by
  induction rows generalizing s with
  | nil =>
    intro h cs hl _ acc
    simp only [bytesOfRows] at h; cases h
    have : cs = [] := List.eq_nil_of_length_eq_zero (by simpa using hl)
    subst this
    simp
  | cons row rows ih =>
    intro h cs hl hr acc
    match row, h with
    | [.int .u8 n], h =>
      simp only [bytesOfRows] at h
      split at h
      · rename_i r hrr
        cases h
        match cs, hl with
        | c :: cs, hl =>
          obtain ⟨x, hx, hrep⟩ := hr 0 _ (.int .u8 n) rfl rfl
          simp at hx; subst hx
          cases hrep
          rw [List.forIn_cons]
          have hp : (ByteArray.mk acc.toArray).push (UInt8.ofNat n.toNat) = ByteArray.mk (acc ++ [UInt8.ofNat n.toNat]).toArray := by
            simp [ByteArray.push]
          have := ih hrr cs (by simpa using hl) (fun i row q h1 h2 => by simpa using hr (i + 1) row q (by simpa using h1) h2) (acc ++ [UInt8.ofNat n.toNat])
          simp only [Sem.run_bind, Sem.run_pure, Result.andThen_ok, hp, this]
          simp
      · cases h

theorem snd_b2s {sT dT el : Nat} {x : Operand} {y : RA} (hs : P.underlying sT = some (.slice el)) (hd : P.underlying dT = some .string) (he : P.underlying el = some (.int .u8)) (h1 : chkA x y = true) (h : step σ nm ev (.b2s y) = some e) :
    Good P B w0 I0 w I ι σ D nm e (do pure (.value (← convert sT dT (ρ x)))) := by
  simp only [step] at h
  split at h
  · rename_i rows rd hr
    split at h
    · rename_i s hb
      cases h
      have hsh := prowsOf_spec hc.sims hr (hev _ _ h1)
      obtain ⟨cs, hfc, hcs, hg⟩ := run_firstCells (P := P) hsh
      obtain ⟨p, cap, hv, hcap, hw, hp⟩ := hsh
      rw [hv] at hfc ⊢
      simp only [List.length_map, Nat.mul_one] at hfc hcs
      have hcells : ∀ (i : Nat) (row : List PV) (q : PV), rows[i]? = some row → row[0]? = some q → ∃ z, cs.toList[i]? = some z ∧ RepP w I z q := by
        intro i row q h1 h2
        obtain ⟨z, hz, hrep⟩ := hg i 0 (row.map .pv) (.pv q) (by simp [h1]) (by simp [h2])
        refine ⟨z, by simpa using hz, ?_⟩
        cases hrep.2 with | pv h => exact h
      refine good_same (v := .string ⟨s.toArray⟩) hc ?_ rfl (.pv (.str' (by simp)))
      simp only [List.length_map]
      unfold convert
      simp only [Sem.run_bind, run_under hs, run_under hd, Result.andThen_ok]
      simp only [run_under he, Result.andThen_ok]
      unfold Conv.bytesToString
      cases p with
      | none =>
        have hr0 : rows = [] := by
          rcases rows with _ | ⟨r, rs⟩
          · rfl
          · obtain ⟨a, ha, _⟩ := hp (by simp); cases ha
        subst hr0
        simp only [bytesOfRows] at hb; cases hb
        rfl
      | some a =>
        simp only [Builtin.firstCells, Nat.mul_one] at hfc
        simp only [Sem.run_bind, hfc, Result.andThen_ok]
        rw [← Array.forIn_toList]
        have := bytes_run (P := P) hb cs.toList (by simpa using hcs) hcells []
        simp only [List.nil_append] at this
        have h0 : ByteArray.empty = ByteArray.mk ([] : List UInt8).toArray := rfl
        rw [h0]
        refine (congrArg (fun r : Result ByteArray => (r.andThen fun a w' => Sem.run P (pure (Value.string a)) w').andThen fun a w' => Sem.run P (pure (Next.value a)) w') this).trans ?_
        rfl
    · cases h
  · cases h

end
end Go.Ab
