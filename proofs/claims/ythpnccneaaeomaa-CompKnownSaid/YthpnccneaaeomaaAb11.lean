/- One operation's soundness: slicing, strings of slices, literals, maps looked up. Under: nothing. -/
import Derived.Test.YthpnccneaaeomaaAb10
namespace Go.Ab
open Go.RowKit
section
variable {P : Program} {B : Nat} {w0 : World} {I0 : Imm} {w : World} {I : Imm} {ι : Nat → Option Nat} {σ : Store} {D : Nat → Prop} {nm : Nat} {ρ : Operand → Value} {ev : RA → AV} {e : Eff}

theorem run_sliceBounds {isSlice : Bool} {len cap m' : Nat} {lo hi mx : Option Value} {l h : Int}
    (hlo : (lo = none ∧ l = 0) ∨ ∃ k, lo = some (.int k l)) (hhi : (hi = none ∧ h = len) ∨ ∃ k, hi = some (.int k h))
    (hmx : (mx = none ∧ m' = cap) ∨ ∃ k m, mx = some (.int k m) ∧ m' = m.toNat ∧ 0 ≤ m ∧ m ≤ cap) (hmh : hi = none → mx = none)
    (h0 : 0 ≤ l) (h1 : l ≤ h) (h2 : h ≤ m') (w : World) : (Instr.sliceBounds isSlice len cap lo hi mx).run P w = .ok (l.toNat, h.toNat, m') w := by
  have sb : ∀ (k : IntKind) (i : Int) (y : Nat) (code : BoundsCode), 0 ≤ i → i ≤ y → (Instr.sliceBound (.int k i) y code).run P w = .ok i.toNat w := fun k i y code a b => run_sliceBound rfl a b w
  unfold Instr.sliceBounds
  rcases hmx with ⟨rfl, rfl⟩ | ⟨k, m, rfl, rfl, hm0, hm1⟩
  · rcases hhi with ⟨rfl, rfl⟩ | ⟨k, rfl⟩
    · rcases hlo with ⟨rfl, rfl⟩ | ⟨k, rfl⟩
      · simp
      · simp [sb k l len _ h0 h1]
    · rcases hlo with ⟨rfl, rfl⟩ | ⟨k', rfl⟩
      · simp [sb k h m' _ h1 h2]
      · simp [sb k h m' _ (by omega) h2, sb k' l h.toNat _ h0 (by omega)]
  · rcases hhi with ⟨rfl, rfl⟩ | ⟨k', rfl⟩
    · exact absurd (hmh rfl) (by simp)
    · rcases hlo with ⟨rfl, rfl⟩ | ⟨k'', rfl⟩
      · simp [sb k m cap _ hm0 hm1, sb k' h m.toNat _ h1 h2]
      · simp [sb k m cap _ hm0 hm1, sb k' h m.toNat _ (by omega) h2, sb k'' l h.toNat _ h0 (by omega)]

theorem sl_inv {v : Value} {es : Nat} {rows : List (List PV)} (h : RepP w I v (.sl es rows)) : ∃ p n cap, v = .slice p n cap := by cases h; exact ⟨_, _, _, rfl⟩

variable (hc : Core B w0 I0 w I ι σ D) (hev : ∀ o r, chkA o r = true → RepA w I ι σ D (ρ o) (ev r))
include hc hev

omit hc in
theorem opt_val {o : Option Operand} {r : Option RA} {d i : Int} (hx : chkO o r = true) (h : optIdx ev d r = some i) : (o.map ρ = none ∧ i = d) ∨ ∃ k, o.map ρ = some (.int k i) := by
  rcases optIdx_run hev hx h with ⟨rfl, rfl⟩ | ⟨x, k, rfl, hk⟩
  · exact .inl ⟨rfl, rfl⟩
  · exact .inr ⟨k, by simp [hk]⟩

omit hc hev in
theorem opt_max {o : Option Operand} {d m : Int} {cap : Nat} (h : (o.map ρ = none ∧ m = d) ∨ ∃ k, o.map ρ = some (.int k m)) (h0 : 0 ≤ m) (h1 : m ≤ cap) :
    ∃ m' : Nat, ((o.map ρ = none ∧ m' = cap) ∨ ∃ k m, o.map ρ = some (.int k m) ∧ m' = m.toNat ∧ 0 ≤ m ∧ m ≤ cap) ∧ m ≤ m' ∧ m' ≤ cap ∧ (o ≠ none → (m' : Int) = m) := by
  rcases h with ⟨h, rfl⟩ | ⟨k, h⟩
  · exact ⟨cap, .inl ⟨h, rfl⟩, h1, Nat.le_refl _, fun hn => by cases o <;> simp_all⟩
  · exact ⟨m.toNat, .inr ⟨k, m, h, rfl, h0, h1⟩, by omega, by omega, fun _ => by omega⟩

theorem snd_slice {x : Operand} {y : RA} {lo hi mx : Option Operand} {lo' hi' mx' : Option RA} {t el es : Nat} (ht : P.underlying t = some (.slice el)) (hs : chkSize P el es = true)
    (h1 : chkA x y = true) (hlo : chkO lo lo' = true) (hhi : chkO hi hi' = true) (hmx : chkO mx mx' = true) (hmh : hi = none → mx = none)
    (h : step σ nm ev (.slice es y lo' hi' mx') = some e) : Good P B w0 I0 w I ι σ D nm e (do pure (.value (← Instr.sliceAt t (ρ x) (lo.map ρ) (hi.map ρ) (mx.map ρ)))) := by
  simp only [step, step.sliceP, Eff.of] at h
  have hx := (hev _ _ h1).e
  have hmh' : hi.map ρ = none → mx.map ρ = none := by
    intro hn; cases hi <;> simp_all
  have hrun : ∀ (p : Option Addr) (n cap m' : Nat) (l h : Int), (Instr.sliceBounds true n cap (lo.map ρ) (hi.map ρ) (mx.map ρ)).run P w = .ok (l.toNat, h.toNat, m') w →
      (Instr.sliceAt t (.slice p n cap) (lo.map ρ) (hi.map ρ) (mx.map ρ)).run P w = .ok (.slice (if m' = l.toNat then p else p.map (·.add (l.toNat * es))) (h.toNat - l.toNat) (m' - l.toNat)) w := by
    intro p n cap m' l h hb
    simp [Instr.sliceAt, run_under ht, Instr.slice, hb, run_sizeOf' hs]
  -- pure rows
  have pure_case : ∀ (p : Option Addr) (n cap : Nat) (rows : List (List PV)) (l h m : Int), RepP w I (.slice p n cap) (.sl es rows) → optIdx ev 0 lo' = some l → optIdx ev rows.length hi' = some h → optIdx ev rows.length mx' = some m →
      0 ≤ l ∧ l ≤ h ∧ h ≤ m ∧ m ≤ rows.length → ∃ (q : Option Addr) (k c : Nat), (Instr.sliceAt t (.slice p n cap) (lo.map ρ) (hi.map ρ) (mx.map ρ)).run P w = .ok (.slice q k c) w ∧
        RepP w I (.slice q k c) (.sl es ((rows.take h.toNat).drop l.toNat)) ∧ (mx' ≠ none → h = m → k = c) := by
    intro p n cap rows l h m hrep el eh em hle
    cases hrep with
    | sl f hl hcap hw hp hr =>
      subst hl
      obtain ⟨m', hm', hmm, hmc, hms⟩ := opt_max (ρ := ρ) (cap := cap) (opt_val hev hmx em) (by omega) (by omega)
      have hb := run_sliceBounds (P := P) (isSlice := true) (len := rows.length) (cap := cap) (opt_val hev hlo el) (opt_val hev hhi eh) hm' hmh' hle.1 hle.2.1 (by omega) w
      refine ⟨_, _, _, hrun p _ _ _ _ _ hb, ?_, fun hne hhm => ?_⟩
      · have hlen : ((rows.take h.toNat).drop l.toNat).length = h.toNat - l.toNat := by simp; omega
        have hget : ∀ i, i < h.toNat - l.toNat → ((rows.take h.toNat).drop l.toNat)[i]? = rows[l.toNat + i]? := by
          intro i hi
          rw [List.getElem?_drop, List.getElem?_take_of_lt (by omega)]
        refine .sl (fun i j => f (l.toNat + i) j) hlen (by omega) (fun i row hrow => ?_) (fun hne => ?_) (fun i j row q hrow hq => ?_)
        · have hi : i < h.toNat - l.toNat := by have := (List.getElem?_eq_some_iff.1 hrow).1; omega
          rw [hget i hi] at hrow; exact hw _ _ hrow
        · have hpos : 0 < h.toNat - l.toNat := by rw [← hlen]; exact List.length_pos_iff.2 hne
          obtain ⟨a, rfl, hsp, hcell⟩ := hp (by intro e; subst e; simp at hle hpos; omega)
          rw [if_neg (by omega)]
          refine ⟨a.add (l.toNat * es), rfl, by rw [add_addr' hsp], fun i j hi hj => ?_⟩
          rw [hlen] at hi
          rw [add_addr' hsp]
          have := hcell (l.toNat + i) j (by omega) hj
          rw [Nat.add_mul, Nat.add_assoc, ← Nat.add_assoc] at this
          exact this
        · have hi : i < h.toNat - l.toNat := by have := (List.getElem?_eq_some_iff.1 hrow).1; omega
          rw [hget i hi] at hrow; exact hr _ _ _ _ hrow hq
      · have hmo : mx ≠ none := by intro e; subst e; cases mx' <;> simp_all [chkO]
        have := hms hmo
        omega
  split at h
  · rename_i b i n hb
    split at h
    · rename_i o ho
      split at h
      · rename_i l hh m el eh em
        split at h
        · rename_i hle
          cases h
          rw [hb] at hx
          generalize ρ x = X at hx
          cases hx with
          | own hD hone hx =>
            obtain ⟨p, cap, rfl, hin, hcap, hcase⟩ := hx o ho
            have hml : m + i ≤ o.len := by
              cases mx' with
              | none => simp only [optIdx, Option.some.injEq] at em; omega
              | some x =>
                rcases hle.2.2.2.1 with h | h
                · cases h
                · omega
            obtain ⟨m', hm', hmm, hmc, hms⟩ := opt_max (ρ := ρ) (cap := cap) (opt_val hev hmx em) (by omega) (by omega)
            have hbd := run_sliceBounds (P := P) (isSlice := true) (len := n) (cap := cap) (opt_val hev hlo el) (opt_val hev hhi eh) hm' hmh' hle.1 hle.2.1 (by omega) w
            refine good_same (v := .slice (if m' = l.toNat then p else p.map (·.add (l.toNat * es))) (hh.toNat - l.toNat) (m' - l.toNat)) hc (by simp only [Sem.run_bind, hrun p _ _ _ _ _ hbd, Result.andThen_ok, Sem.run_pure]) rfl ?_
            refine .own hD rfl fun o' ho' => ?_
            rw [ho] at ho'; cases ho'
            have e1 : hh.toNat - l.toNat = (hh - l).toNat := by omega
            rw [e1]
            have hend : o.len ≤ i + m' := by
              rcases hm' with ⟨_, e⟩ | ⟨k, mm, hk, _⟩
              · omega
              · have hne : mx ≠ none := by intro e; subst e; simp at hk
                have := hms hne
                have hmo' : m ≤ n := by
                  rcases hle.2.2.2.1 with h | h
                  · exfalso
                    have hm0 : mx' = none := by simpa using h
                    subst hm0
                    cases mx with
                    | none => exact hne rfl
                    | some x => simp [chkO] at hmx
                  · exact h
                rcases hle.2.2.2.2.2 with hnone | hge
                · exfalso
                  have hm0 : mx' = none := by simpa using hnone
                  subst hm0
                  cases mx with
                  | none => exact hne rfl
                  | some x => simp [chkO] at hmx
                · omega
            refine ⟨_, _, rfl, by omega, ⟨by omega, by omega⟩, ?_⟩
            rcases hcase with ⟨h0, h1⟩ | ⟨r, c, T, fz, hr, rfl, hheap, hsz⟩
            · left; omega
            · by_cases hml : m' = l.toNat
              · left; omega
              · right
                refine ⟨r, c, T, fz, hr, ?_, hheap, ?_⟩
                · rw [if_neg hml]
                  simp only [Option.map_some, add_addr]
                  rw [Nat.add_mul, hle.2.2.2.2.1]
                · have : i + l.toNat + (m' - l.toNat) ≤ i + cap := by omega
                  exact Nat.le_trans (Nat.mul_le_mul_right _ this) hsz
        · cases h
      · cases h
    · cases h
  · rename_i es' rows hb
    split at h
    · rename_i he
      subst he
      split at h
      · rename_i l hh m el eh em
        split at h
        · rename_i hle
          rw [hb] at hx
          generalize ρ x = X at hx
          cases hx with
          | pv hx =>
            obtain ⟨p, n, cap, rfl⟩ := sl_inv hx
            · obtain ⟨q, k, c', hrun', hrep', hfull⟩ := pure_case p n cap rows l hh m hx el eh em hle
              have hG : Good P B w0 I0 w I ι σ D nm { v := .pv (.sl es' ((rows.take hh.toNat).drop l.toNat)) } (do pure (.value (← Instr.sliceAt t (.slice p n cap) (lo.map ρ) (hi.map ρ) (mx.map ρ)))) :=
                good_same hc (by simp only [Sem.run_bind, hrun', Result.andThen_ok, Sem.run_pure]) rfl (.pv hrep')
              split at h
              · split at h
                · rename_i hhm
                  cases h
                  have := hfull (by simp) hhm
                  subst this
                  exact good_same hc (by simp only [Sem.run_bind, hrun', Result.andThen_ok, Sem.run_pure]) rfl (.fsl hrep')
                · cases h; exact hG
              · cases h; exact hG
        · cases h
      · cases h
    · cases h
  · rename_i es' rows hb
    split at h
    · rename_i he
      subst he
      split at h
      · rename_i l hh m el eh em
        split at h
        · rename_i hle
          rw [hb] at hx
          generalize ρ x = X at hx
          cases hx with
          | fsl hx =>
            rename_i p n
            obtain ⟨q, k, c', hrun', hrep', hfull⟩ := pure_case p n n rows l hh m hx el eh em hle
            have hG : Good P B w0 I0 w I ι σ D nm { v := .pv (.sl es' ((rows.take hh.toNat).drop l.toNat)) } (do pure (.value (← Instr.sliceAt t (.slice p n n) (lo.map ρ) (hi.map ρ) (mx.map ρ)))) :=
              good_same hc (by simp only [Sem.run_bind, hrun', Result.andThen_ok, Sem.run_pure]) rfl (.pv hrep')
            split at h
            · split at h
              · rename_i hhm
                cases h
                have := hfull (by simp) hhm
                subst this
                exact good_same hc (by simp only [Sem.run_bind, hrun', Result.andThen_ok, Sem.run_pure]) rfl (.fsl hrep')
              · cases h; exact hG
            · cases h; exact hG
        · cases h
      · cases h
    · cases h
  · rename_i es' hb
    split at h
    · rename_i l hh m el eh em
      split at h
      · rename_i hle
        cases h
        obtain ⟨rfl, rfl, rfl⟩ := hle
        rw [hb] at hx
        generalize ρ x = X at hx
        cases hx with
        | emp =>
          obtain ⟨m', hm', hmm, hmc, hms⟩ := opt_max (ρ := ρ) (cap := 0) (opt_val hev hmx em) (by omega) (by omega)
          have hbd := run_sliceBounds (P := P) (isSlice := true) (len := 0) (cap := 0) (opt_val hev hlo el) (opt_val hev hhi eh) hm' hmh' (by omega) (by omega) (by omega) w
          have : m' = 0 := by omega
          subst this
          refine good_same (v := .slice none 0 0) hc ?_ rfl (.emp _)
          simp only [Sem.run_bind, hrun none _ _ _ _ _ hbd, Result.andThen_ok, Sem.run_pure]
          rfl
      · cases h
    · cases h
  · cases h

theorem snd_sslice {x : Operand} {y : RA} {lo hi : Option Operand} {lo' hi' : Option RA} {t : Nat} (ht : P.underlying t = some .string)
    (h1 : chkA x y = true) (hlo : chkO lo lo' = true) (hhi : chkO hi hi' = true)
    (h : step σ nm ev (.sslice y lo' hi') = some e) : Good P B w0 I0 w I ι σ D nm e (do pure (.value (← Instr.sliceAt t (ρ x) (lo.map ρ) (hi.map ρ) none))) := by
  simp only [step, Eff.of] at h
  split at h
  · rename_i s hs
    split at h
    · rename_i l hh el eh
      split at h
      · rename_i hle
        cases h
        have hbd := run_sliceBounds (P := P) (isSlice := false) (len := s.length) (cap := s.length) (m' := s.length) (mx := none) (opt_val hev hlo el) (opt_val hev hhi eh) (.inl ⟨rfl, rfl⟩) (fun _ => rfl) hle.1 hle.2.1 (by omega) w
        refine good_same (v := .string ((ByteArray.mk s.toArray).extract l.toNat hh.toNat)) hc ?_ rfl (.pv (.str' ?_))
        · rw [rep_str hev h1 hs]
          simp [Instr.sliceAt, run_under ht, Instr.slice, size_mk, hbd]
        · simp [List.extract, List.drop_take]
      · cases h
    · cases h
  · cases h

end
end Go.Ab
