/- One operation's soundness: addresses, slices, strings. Under: nothing. -/
import Derived.Test.YthpnccneaaeomaaAb9
namespace Go.Ab
open Go.RowKit
section
variable {P : Program} {B : Nat} {w0 : World} {I0 : Imm} {w : World} {I : Imm} {ι : Nat → Option Nat} {σ : Store} {D : Nat → Prop} {nm : Nat} {ρ : Operand → Value} {ev : RA → AV} {e : Eff}
variable (hc : Core B w0 I0 w I ι σ D) (hev : ∀ o r, chkA o r = true → RepA w I ι σ D (ρ o) (ev r))
include hc hev

theorem snd_faddr {x : Operand} {y : RA} {t f off n : Nat} {fields : Array Field} {fd : Field} (ht : P.underlying t = some (.struct fields)) (hf : fields[f]? = some fd) (hoff : fd.offset = off)
    (hs : chkSize P fd.type n = true) (hn : n ≠ 0) (h1 : chkA x y = true) (h : step σ nm ev (.faddr y off) = some e) : Good P B w0 I0 w I ι σ D nm e (do pure (.value (← Instr.fieldAt t (ρ x) f))) := by
  simp only [step, Eff.of] at h
  have hx := hev _ _ h1
  have hrun : ∀ (a : Addr), (Instr.fieldAt t (.pointer (some a)) f).run P w = .ok (.pointer (some (a.add off))) w := by
    intro a
    simp [Instr.fieldAt, run_under ht, hf, Instr.sureAddr, fieldPlace, run_sizeOf' hs, hn, hoff]
  split at h
  · rename_i b i j hb
    split at h
    · rename_i o ho
      cases h
      rw [hb] at hx
      have hx' := hx
      generalize ρ x = X at hx
      cases hx with
      | ptr hD hone hx =>
        obtain ⟨r, hr, rfl⟩ := hx o ho
        refine good_same (v := .pointer (some ⟨r, i * o.es + (j + off), none⟩)) hc ?_ rfl ?_
        · simp only [Sem.run_bind, hrun, Result.andThen_ok, Sem.run_pure, add_addr, Nat.add_assoc]
        · refine .ptr hD rfl fun o' ho' => ?_
          rw [ho] at ho'; cases ho'
          exact ⟨r, hr, rfl⟩
    · cases h
  · rename_i cs hb
    cases h
    rw [hb] at hx
    generalize ρ x = X at hx
    cases hx with
    | pv hx =>
      cases hx with
      | ref g ha hp hr =>
        rename_i a
        refine good_same (v := .pointer (some (a.add off))) hc (by simp only [Sem.run_bind, hrun, Result.andThen_ok, Sem.run_pure]) rfl ?_
        rw [add_addr' ha]
        refine .pv (.ref (fun k => g (off + k)) rfl (fun k hk => ?_) (fun k q hq => ?_))
        · have := hp (off + k) (by simp at hk; omega)
          rw [← Nat.add_assoc] at this
          exact this
        · rw [List.getElem?_drop] at hq
          exact hr _ _ hq
  · cases h

theorem snd_iaddr {x ix : Operand} {y yi : RA} {t el es : Nat} (ht : P.underlying t = some (.slice el)) (hs : chkSize P el es = true) (h1 : chkA x y = true) (h2 : chkA ix yi = true)
    (h : step σ nm ev (.iaddr es y yi) = some e) : Good P B w0 I0 w I ι σ D nm e (do pure (.value (← Instr.indexAt t (ρ x) (ρ ix)))) := by
  simp only [step, step.iaddrP, Eff.of] at h
  have hx := hev _ _ h1
  have hrun : ∀ (a : Addr) (n cap : Nat) (k : Int) (kk : IntKind), ρ ix = .int kk k → 0 ≤ k → k < n → (Instr.indexAt t (.slice (some a) n cap) (ρ ix)).run P w = .ok (.pointer (some (a.add (k.toNat * es)))) w := by
    intro a n cap k kk hk h0 h1
    rw [hk]
    simp [Instr.indexAt, asIntOf, run_under ht, h0, h1, run_sizeOf' hs]
  have pure_case : ∀ (rows : List (List PV)) (n cap : Nat) (p : Option Addr) (k : Int) (kk : IntKind) (row : List PV), RepP w I (.slice p n cap) (.sl es rows) → ρ ix = .int kk k → 0 ≤ k → rows[k.toNat]? = some row →
      Good P B w0 I0 w I ι σ D nm { v := .pv (.ref row) } (do pure (.value (← Instr.indexAt t (.slice p n cap) (ρ ix)))) := by
    intro rows n cap p k kk row hrep hK h0 hrow
    cases hrep with
    | sl f hl hcap hw hp hr =>
      have hlt : k.toNat < rows.length := (List.getElem?_eq_some_iff.1 hrow).1
      obtain ⟨a, rfl, hsp, hcell⟩ := hp (by intro e; subst e; simp at hrow)
      refine good_same (v := .pointer (some (a.add (k.toNat * es)))) hc ?_ rfl ?_
      · simp only [Sem.run_bind, hrun a n cap k kk hK h0 (by omega), Result.andThen_ok, Sem.run_pure]
      · rw [add_addr' hsp]
        refine .pv (.ref (fun j => f k.toNat j) rfl (fun j hj => ?_) (fun j q hq => hr k.toNat j row q hrow hq))
        have := hcell k.toNat j hlt (by rw [← hw _ _ hrow]; exact hj)
        rw [← Nat.add_assoc] at this
        exact this
  split at h
  · rename_i k hk
    obtain ⟨kk, hkk⟩ := idx_inv hev h2 hk
    split at h
    · rename_i b i n hb
      split at h
      · rename_i o ho
        split at h
        · rename_i hle
          cases h
          rw [hb] at hx
          generalize ρ x = X at hx
          cases hx with
          | own hD hone hx =>
            obtain ⟨p, cap, rfl, hin, hcap, hh⟩ := hx o ho
            rcases hh with ⟨h0, _⟩ | ⟨r, c, T, fz, hr, rfl, hheap, hsz⟩
            · omega
            · refine good_same (v := .pointer (some ⟨r, (i + k.toNat) * o.es + 0, none⟩)) hc ?_ rfl ?_
              · simp only [Sem.run_bind, hrun _ n cap k kk hkk hle.1 hle.2.1, Result.andThen_ok, Sem.run_pure, add_addr]
                rw [hle.2.2, Nat.add_mul, Nat.add_zero]
              · refine .ptr hD rfl fun o' ho' => ?_
                rw [ho] at ho'; cases ho'
                exact ⟨r, hr, rfl⟩
        · cases h
      · cases h
    · rename_i es' rows hb
      split at h
      · rename_i he
        subst he
        split at h
        · rename_i h0
          split at h
          · rename_i row hrow
            cases h
            rw [hb] at hx
            generalize ρ x = X at hx
            cases hx with
            | pv hx =>
              have hx2 := hx
              cases hx with
              | sl f a b c d e' => exact pure_case rows _ _ _ k kk row hx2 hkk h0 hrow
          · cases h
        · cases h
      · cases h
    · rename_i es' rows hb
      split at h
      · rename_i he
        subst he
        split at h
        · rename_i h0
          split at h
          · rename_i row hrow
            cases h
            rw [hb] at hx
            generalize ρ x = X at hx
            cases hx with
            | fsl hx => exact pure_case rows _ _ _ k kk row hx hkk h0 hrow
          · cases h
        · cases h
      · cases h
    · cases h
  · cases h

theorem snd_slen {x : Operand} {y : RA} {t ty el : TypeId} (ht : P.underlying t = some (.slice el)) (h1 : chkA x y = true) (h : step σ nm ev (.slen y) = some e) :
    Good P B w0 I0 w I ι σ D nm e (do pure (.value (← Builtin.len_ #[t] ty #[ρ x]))) := by
  simp only [step, Eff.of] at h
  have hx := (hev _ _ h1).e
  have hrun : ∀ (p : Option Addr) (n cap : Nat), (Builtin.len_ #[t] ty #[.slice p n cap]).run P w = .ok (.int .i64 n) w := by
    intro p n cap
    unfold Builtin.len_
    simp [run_under ht, goInt]
  split at h
  · rename_i b i n hb
    split at h
    · rename_i o ho
      cases h
      rw [hb] at hx
      generalize ρ x = X at hx
      cases hx with
      | own hD hone hx =>
        obtain ⟨p, cap, rfl, _⟩ := hx o ho
        exact good_same (v := .int .i64 n) hc (by simp only [Sem.run_bind, hrun p n cap, Result.andThen_ok, Sem.run_pure]) rfl (.pv (.int _ _))
    · cases h
  · rename_i es rows hb
    cases h
    rw [hb] at hx
    generalize ρ x = X at hx
    cases hx with
    | pv hx =>
      cases hx with
      | sl f hl a b c d =>
        subst hl
        exact good_same (v := .int .i64 rows.length) hc (by simp only [Sem.run_bind, hrun, Result.andThen_ok, Sem.run_pure]) rfl (.pv (.int _ _))
  · rename_i es rows hb
    cases h
    rw [hb] at hx
    generalize ρ x = X at hx
    cases hx with
    | fsl hx =>
      cases hx with
      | sl f hl a b c d =>
        subst hl
        exact good_same (v := .int .i64 rows.length) hc (by simp only [Sem.run_bind, hrun, Result.andThen_ok, Sem.run_pure]) rfl (.pv (.int _ _))
  · rename_i es hb
    cases h
    rw [hb] at hx
    generalize ρ x = X at hx
    cases hx with
    | emp p =>
      exact good_same (v := .int .i64 0) hc (by simp only [Sem.run_bind, hrun, Result.andThen_ok, Sem.run_pure]; rfl) rfl (.pv (.int _ _))
  · cases h

theorem snd_sindex {x ix : Operand} {y yi : RA} {t : Nat} (ht : P.underlying t = some .string) (h1 : chkA x y = true) (h2 : chkA ix yi = true)
    (h : step σ nm ev (.sindex y yi) = some e) : Good P B w0 I0 w I ι σ D nm e (do pure (.value (← Instr.index t (ρ x) (ρ ix)))) := by
  simp only [step, Eff.of] at h
  split at h
  · rename_i s k hs hk
    obtain ⟨kk, hkk⟩ := idx_inv hev h2 hk
    split at h
    · rename_i h0
      split at h
      · rename_i b hb
        cases h
        refine good_same (v := .int .u8 b.toNat) hc ?_ rfl (.pv (.int _ _))
        rw [rep_str hev h1 hs, hkk]
        have hbb : (ByteArray.mk s.toArray)[k.toNat]? = some b := by
          have hlt : k.toNat < s.length := (List.getElem?_eq_some_iff.1 hb).1
          rw [getElem?_pos (ByteArray.mk s.toArray) k.toNat (by rw [size_mk]; exact hlt)]
          have : s[k.toNat] = b := (List.getElem?_eq_some_iff.1 hb).2
          rw [← this]; rfl
        simp [Instr.index, asIntOf, run_under ht, h0, hbb]
      · cases h
    · cases h
  · cases h

end
end Go.Ab
