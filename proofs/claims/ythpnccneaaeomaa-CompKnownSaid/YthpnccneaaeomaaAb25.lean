/- A step's frame. Under: nothing. -/
import Derived.Test.YthpnccneaaeomaaAb24
namespace Go.Ab
section
variable {σ σ' : Store} {nm : Nat} {ev ev' : RA → AV} {e : Eff}

theorem step_frame {op : ROp} (h : step σ nm ev op = some e) (hev : ∀ x ∈ op.operands, ev' x = ev x)
    (hrd : ∀ b ∈ e.rd, Alike σ σ' b ∧ (b ∈ e.up.map (·.1) → find σ' b = find σ b)) : step σ' nm ev' op = some e := by
  cases op <;> simp only [ROp.operands, List.mem_cons, List.mem_append, List.not_mem_nil, or_false, forall_eq_or_imp, forall_eq] at hev
  case mv x => simp only [step, hev] at h ⊢; exact h
  case pick c a b => simp only [step, hev.1, hev.2.1, hev.2.2] at h ⊢; exact h
  case alloc z => simp only [step] at h ⊢; exact h
  case box n x => simp only [step, hev] at h ⊢; exact h
  case load g n x =>
    simp only [step, hev] at h ⊢
    split at h
    · split at h
      · rename_i o hf
        split at h
        · rename_i row hrow
          split at h
          · rename_i hle
            split at h
            · rename_i v hv
              cases h
              obtain ⟨o', ho', hse⟩ := (hrd _ (by simp)).1.some hf
              simp only [ho', (seal_eq hse).2, hrow, hle, if_true, hv]
            · cases h
          · cases h
        · cases h
      · cases h
    · exact h
    · cases h
  case store n a v =>
    simp only [step, hev.1, hev.2] at h ⊢
    split at h
    · rename_i b i j hb
      have key : b ∈ e.rd ∧ b ∈ e.up.map (·.1) := by
        split at h <;> (try cases h)
        · split at h <;> (try cases h)
          split at h <;> cases h
          exact ⟨by simp, by simp⟩
        · split at h <;> (try cases h)
          split at h
          · split at h <;> cases h
            exact ⟨by simp, by simp⟩
          · split at h <;> cases h
            exact ⟨by simp, by simp⟩
      rw [(hrd b key.1).2 key.2]; exact h
    · cases h
  case bin o x y => simp only [step, hev.1, hev.2] at h ⊢; exact h
  case eqs n k x y => simp only [step, hev.1, hev.2] at h ⊢; exact h
  case eqb n x y => simp only [step, hev.1, hev.2] at h ⊢; exact h
  case isnil n x =>
    simp only [step, hev] at h ⊢
    split at h
    · exact h
    · exact h
    · exact h
    · split at h
      · rename_i o hf
        have hin : ∀ b, b ∈ e.rd → ∀ o, find σ b = some o → ∃ o', find σ' b = some o' := fun b hb o ho => let ⟨o', h1, _⟩ := (hrd b hb).1.some ho; ⟨o', h1⟩
        split at h
        · cases h
          obtain ⟨o', ho'⟩ := hin _ (by simp) _ hf
          simp only [ho']
        · cases h
          obtain ⟨o', ho'⟩ := hin _ (by simp) _ hf
          simp only [ho']
      · cases h
    · cases h
  case not x => simp only [step, hev] at h ⊢; exact h
  case neg x => simp only [step, hev] at h ⊢; exact h
  case conv k x => simp only [step, hev] at h ⊢; exact h
  case same x => simp only [step, hev] at h ⊢; exact h
  case s2b x => simp only [step, hev] at h ⊢; exact h
  case b2s x =>
    simp only [step, hev] at h ⊢
    split at h
    · rename_i rows rd hp
      split at h
      · rename_i s hs
        cases h
        rw [prowsOf_frame hp fun b hb => (hrd b hb).1]
        simp only [hs]
      · cases h
    · cases h
  case mkf fn a b =>
    simp only [step] at h ⊢
    rw [List.map_congr_left fun x hx => hev x (.inl hx), List.map_congr_left fun x hx => hev x (.inr hx)]
    exact h
  case mkmap => simp only [step] at h ⊢; exact h
  case insert m k v =>
    simp only [step, hev.1, hev.2.1, hev.2.2] at h ⊢
    split at h
    · rename_i b s hb hs
      split at h
      · rename_i ents hf
        split at h
        · cases h
          rw [(hrd b (by simp)).1.map hf]
          simp only [*]
        · cases h
      · cases h
    · cases h
  case lookup m k z =>
    simp only [step, hev.1, hev.2] at h ⊢
    split at h
    · rename_i b s hb hs
      split at h
      · rename_i ents hf
        cases h
        rw [(hrd b (by simp)).1.map hf]
      · cases h
    · cases h
  case clear es z x =>
    simp only [step, hev] at h ⊢
    split at h
    · rename_i b i n hb
      split at h
      · rename_i es' rows hf
        split at h
        · rename_i hle
          cases h
          rw [(hrd b (by simp)).2 (by simp), hf]
          simp only; rw [if_pos hle]
        · cases h
      · cases h
    · cases h
  case mksl es by' z x => simp only [step, hev] at h ⊢; exact h
  case slice es x lo hi mx =>
    have h1 : ∀ {d : Int}, optIdx ev' d lo = optIdx ev d lo := optIdx_frame fun x hx => hev.2 x (.inl (.inl hx))
    have h2 : ∀ {d : Int}, optIdx ev' d hi = optIdx ev d hi := optIdx_frame fun x hx => hev.2 x (.inl (.inr hx))
    have h3 : ∀ {d : Int}, optIdx ev' d mx = optIdx ev d mx := optIdx_frame fun x hx => hev.2 x (.inr hx)
    have h4 : ∀ es rows, step.sliceP ev' es rows lo hi mx = step.sliceP ev es rows lo hi mx := by
      intro es rows; simp only [step.sliceP, h1, h2, h3]
    simp only [step, hev.1, h1, h2, h3, h4] at h ⊢
    split at h
    · split at h
      · rename_i o hf
        split at h
        · rename_i hl1 hl2 hl3
          split at h
          · rename_i hle
            cases h
            obtain ⟨o', ho', hse⟩ := (hrd _ (by simp)).1.some hf
            have e1 := (seal_eq hse).1
            have e2 := seal_eq_len hse
            simp only [ho']
            rw [e1, e2]
            simp only [hl1, hl2, hl3]
            rw [if_pos hle]
          · cases h
        · cases h
      · cases h
    · exact h
    · exact h
    · exact h
    · cases h
  case sslice x lo hi =>
    have h1 : ∀ {d : Int}, optIdx ev' d lo = optIdx ev d lo := optIdx_frame fun x hx => hev.2 x (.inl hx)
    have h2 : ∀ {d : Int}, optIdx ev' d hi = optIdx ev d hi := optIdx_frame fun x hx => hev.2 x (.inr hx)
    simp only [step, hev.1, h1, h2] at h ⊢; exact h
  case faddr x off =>
    simp only [step, hev] at h ⊢
    split at h
    · split at h
      · rename_i o hf
        cases h
        obtain ⟨o', ho', hse⟩ := (hrd _ (by simp)).1.some hf
        simp only [ho']
      · cases h
    · exact h
    · cases h
  case field g off n x => simp only [step, hev] at h ⊢; exact h
  case iaddr es x i =>
    simp only [step, hev.1, hev.2] at h ⊢
    split at h
    · split at h
      · split at h
        · rename_i o hf
          split at h
          · rename_i hle
            cases h
            obtain ⟨o', ho', hse⟩ := (hrd _ (by simp)).1.some hf
            simp only [ho', (seal_eq hse).1]
            rw [if_pos hle]
          · cases h
        · cases h
      · exact h
      · exact h
      · cases h
    · cases h
  case index g l es x i => simp only [step, hev.1, hev.2] at h ⊢; exact h
  case sindex x i => simp only [step, hev.1, hev.2] at h ⊢; exact h
  case extract x i => simp only [step, hev] at h ⊢; exact h
  case call f a => simp only [step] at h; cases h
  case slen x =>
    simp only [step, hev] at h ⊢
    split at h
    · split at h
      · rename_i o hf
        cases h
        obtain ⟨o', ho', hse⟩ := (hrd _ (by simp)).1.some hf
        simp only [ho']
      · cases h
    · exact h
    · exact h
    · exact h
    · cases h
  case strlen x => simp only [step, hev] at h ⊢; exact h
  case alen n => simp only [step] at h ⊢; exact h
  case append es by' s x =>
    simp only [step, hev.1, hev.2] at h ⊢
    split at h
    · split at h
      · rename_i xs rd hx
        split at h
        · rename_i hle
          cases h
          rw [rowsOf_frame hx fun b hb => (hrd b hb).1]
          simp only; rw [if_pos hle]
        · cases h
      · cases h
    · split at h
      · rename_i xs rd hx
        split at h
        · rename_i hle
          cases h
          rw [prowsOf_frame hx fun b hb => (hrd b hb).1]
          simp only; rw [if_pos hle]
        · cases h
      · cases h
    · rename_i b n hb
      split at h
      · rename_i es' rows sl hf
        split at h
        · rename_i hee
          split at h
          · rename_i xs rd hx
            split at h
            · rename_i hle
              cases h
              rw [(hrd b (by simp)).2 (by simp), hf, prowsOf_frame hx fun b hb => (hrd b (by simp [hb])).1]
              simp only; rw [if_pos hee, if_pos hle]
            · cases h
          · rename_i hnone
            split at h
            · rename_i xs rd hx
              split at h
              · rename_i hle
                cases h
                rw [(hrd b (by simp)).2 (by simp), hf, prowsOf_none hx hnone fun b hb => (hrd b (by simp [hb])).1, rowsOf_frame hx fun b hb => (hrd b (by simp [hb])).1]
                simp only; rw [if_pos hee, if_pos hle]
              · cases h
            · cases h
        · rename_i hee
          split at h
          · cases h
          · split at h
            · rename_i xs rd hx
              split at h
              · rename_i hle
                cases h
                rw [(hrd b (by simp)).2 (by simp), hf, prowsOf_frame hx fun b hb => (hrd b (by simp [hb])).1]
                simp only; rw [if_neg hee, if_pos hle]
              · cases h
            · cases h
      · rename_i es' rows sl hf
        split at h
        · rename_i hee
          split at h
          · rename_i xs rd hx
            split at h
            · rename_i hle
              cases h
              rw [(hrd b (by simp)).2 (by simp), hf, rowsOf_frame hx fun b hb => (hrd b (by simp [hb])).1]
              simp only; rw [if_pos hee, if_pos hle]
            · cases h
          · cases h
        · cases h
      · cases h
    · cases h
  case copy es d s =>
    simp only [step, hev.1, hev.2] at h ⊢
    split at h
    · rename_i b i n hb
      split at h
      · rename_i es' rows hf
        split at h
        · rename_i hee
          split at h
          · rename_i xs rd hx
            split at h
            · rename_i hle
              cases h
              rw [(hrd b (by simp)).2 (by simp), hf, prowsOf_frame hx fun b hb => (hrd b (by simp [hb])).1]
              simp only; rw [if_pos hee, if_pos hle]
            · cases h
          · cases h
        · cases h
      · cases h
    · cases h
  case mm m xs =>
    cases xs with
    | nil => simp only [step] at h; cases h
    | cons x l =>
      simp only [step] at h ⊢
      rw [hev x (by simp), mmF_frame l _ fun y hy => hev y (by simp [hy])]
      exact h
  case build z ps =>
    simp only [step] at h ⊢
    rw [List.map_congr_left (g := fun (x : Nat × Nat × RA) => (x.1, x.2.1, ev x.2.2)) fun x hx => by
      show (x.1, x.2.1, ev' x.2.2) = _
      rw [hev x.2.2 (List.mem_map.2 ⟨x, hx, rfl⟩)]]
    exact h
  case bsl es n z ps =>
    simp only [step] at h ⊢
    rw [List.map_congr_left (g := fun (x : Nat × RA) => (x.1 * es, es, ev x.2)) fun x hx => by
      show (x.1 * es, es, ev' x.2) = _
      rw [hev x.2 (List.mem_map.2 ⟨x, hx, rfl⟩)]]
    exact h
end
end Go.Ab
