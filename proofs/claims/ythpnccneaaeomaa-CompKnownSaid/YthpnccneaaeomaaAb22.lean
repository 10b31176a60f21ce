/- One operation's soundness: a string's bytes, copy. Under: nothing. -/
import Derived.Test.YthpnccneaaeomaaAb21
namespace Go.Ab
open Go.RowKit
section
variable {P : Program} {B : Nat} {w0 : World} {I0 : Imm} {w w' : World} {I : Imm} {ι : Nat → Option Nat} {σ : Store} {D : Nat → Prop} {nm : Nat} {ρ : Operand → Value} {ev : RA → AV} {e : Eff}

theorem push_modify {α : Type} (a : Array α) (x : α) (f : α → α) : (a.push x).modify a.size f = a.push (f x) := by
  apply Array.ext_getElem?
  intro i
  rw [Array.getElem?_modify, Array.getElem?_push, Array.getElem?_push]
  by_cases h : i = a.size
  · subst h; simp
  · rw [if_neg (fun e => h e.symm), if_neg h, if_neg h]

variable (hc : Core B w0 I0 w I ι σ D) (hn : ¬ D nm) (hev : ∀ o r, chkA o r = true → RepA w I ι σ D (ρ o) (ev r))
include hc hn hev

theorem snd_s2b {sT dT el : Nat} {x : Operand} {y : RA} (hs : P.underlying sT = some .string) (hd : P.underlying dT = some (.slice el)) (he : P.underlying el = some (.int .u8)) (h1 : chkA x y = true) (h : step σ nm ev (.s2b y) = some e) :
    Good P B w0 I0 w I ι σ D nm e (do pure (.value (← convert sT dT (ρ x)))) := by
  simp only [step] at h
  split at h
  · rename_i s hb
    cases h
    let q : Question := .appendCap s.length 0 el
    let cap := q.cut (w.tape w.drawn q)
    have hq : q.forced = false := rfl
    have hcap : s.length ≤ cap := by show s.length ≤ s.length + _; omega
    let c : Array Value := (s.toArray.map fun b => Value.int .u8 b.toNat) ++ Array.replicate (cap - s.length) (.int .u8 0)
    have hcs : c.size = cap := by simp [c]; omega
    let w' : World := { ({ w with drawn := w.drawn + 1 } : World) with heap := w.heap.push (Obj.cells c el (cap, cap + 1)) }
    have hrun : (convert sT dT (ρ x)).run P w = .ok (.slice (some ⟨w.heap.size, 0, none⟩) s.length cap) w' := by
      rw [rep_str hev h1 hb]
      have hch : (choose (.appendCap s.length 0 el)).run P w = .ok cap { w with drawn := w.drawn + 1 } := by
        rw [run_choose]; simp [hq, q, cap]
      unfold convert
      simp only [Sem.run_bind, run_under hs, run_under hd, Result.andThen_ok, run_under he]
      unfold Conv.stringToBytes
      simp only [Sem.run_bind, size_mk, hch, Result.andThen_ok, newRow, run_newObj, Sem.run_pure, markStringish, run_shape]
      have hsh : World.shape? { ({ w with drawn := w.drawn + 1 } : World) with heap := w.heap.push (Obj.cells c el) } w.heap.size = some (el, cap) := by
        simp [World.shape?, hcs]
      have hfr : World.freeze { ({ w with drawn := w.drawn + 1 } : World) with heap := w.heap.push (Obj.cells c el) } { block := w.heap.size, off := cap } 1 = w' := by
        unfold World.freeze
        rw [if_neg (by omega)]
        simp only [w', push_modify]
        simp
      have hsh' := hsh
      simp only [c] at hsh hfr
      rw [hsh]
      simp only [run_freeze, Result.andThen_ok]
      rw [hfr]
    refine good_new (w' := w') (v := .slice (some ⟨w.heap.size, 0, none⟩) s.length cap) (c := c) (T := el) (fz := (cap, cap + 1)) hc hn (by simp [hrun]) rfl ?_ (.inl (by rw [hcs]; exact Nat.le_refl _)) rfl ?_ ?_ rfl ?_
    · have := (Below.drew hc.below).alloc (Nat.le_trans hc.hB hc.below.size) (Obj.cells c el (cap, cap + 1))
      exact this
    · simp only [SObj.len, SObj.es, List.length_map, hcs]; omega
    · intro i row hr
      simp only [SObj.row?, List.getElem?_map, SObj.es] at hr ⊢
      cases hsi : s[i]? with
      | none => rw [hsi] at hr; simp at hr
      | some b =>
        rw [hsi] at hr; simp at hr; subst hr
        refine ⟨rfl, fun j v hv => ?_⟩
        match j, hv with
        | 0, hv =>
          simp at hv; subst hv
          have hi : i < s.length := (List.getElem?_eq_some_iff.1 hsi).1
          refine ⟨.int .u8 b.toNat, ?_, rfl, .pv (.int _ _)⟩
          show c[i * 1 + 0]? = _
          rw [Nat.mul_one, Nat.add_zero, Array.getElem?_append_left (by simp; exact hi)]
          simp [hsi]
    · refine rep_newown (c := c) (T := el) (fz := (cap, cap + 1)) (.inr rfl) (by simp [setι]) (by show (w.heap.push _)[w.heap.size]? = _; simp) (by simp [SObj.len]) hcap (by simp only [SObj.es, Nat.mul_one, hcs]; exact Nat.le_refl _)
  · cases h

omit hn in
theorem snd_copy {dT sT el es ty : Nat} {x y : Operand} {x' y' : RA} (ht : P.underlying dT = some (.slice el)) (hs : chkSize P el es = true) (h1 : chkA x x' = true) (h2 : chkA y y' = true) (h : step σ nm ev (.copy es x' y') = some e) :
    Good P B w0 I0 w I ι σ D nm e (do pure (.value (← Builtin.copy_ #[dT, sT] ty #[ρ x, ρ y]))) := by
  simp only [step] at h
  have hx := hev _ _ h1
  split at h
  · rename_i b i n hb
    split at h
    · rename_i es' rows hf
      split at h
      · rename_i hee
        subst hee
        split at h
        · rename_i xs rd hr
          split at h
          · rename_i hin
            cases h
            have hsh := prowsOf_spec hc.sims hr (hev _ _ h2)
            obtain ⟨p, cap, hv, hcap, hw, hp⟩ := hsh
            rw [hb] at hx
            generalize ρ x = X at hx
            cases hx with
            | own hD hone hx =>
              obtain ⟨pd, capd, rfl, hlen, hcapd, hcase⟩ := hx _ hf
              -- the rows that are copied
              let k := min xs.length n
              have hshk : Shows w I ι σ D es' (.slice p k cap) ((xs.take k).map (·.map .pv)) := by
                refine ⟨p, cap, by simp [k], by simp at hcap ⊢; omega, fun i' row hr' => ?_, fun hne => ?_⟩
                · have hi' : i' < k := by have := (List.getElem?_eq_some_iff.1 hr').1; simp at this; omega
                  rw [List.getElem?_map, List.getElem?_take_of_lt hi', ← List.getElem?_map] at hr'
                  exact hw i' row hr'
                · obtain ⟨a, ha, hsp, hcell⟩ := hp (by intro e; have h0 : xs = [] := (by simpa using e); subst h0; simp at hne)
                  refine ⟨a, ha, hsp, fun i' j row q hr' hq => ?_⟩
                  have hi' : i' < k := by have := (List.getElem?_eq_some_iff.1 hr').1; simp at this; omega
                  rw [List.getElem?_map, List.getElem?_take_of_lt hi', ← List.getElem?_map] at hr'
                  exact hcell i' j row q hr' hq
              obtain ⟨cs, hfc, hcs, hg⟩ := run_firstCells (P := P) hshk
              have hkl : ((xs.take k).map (·.map AV.pv)).length = k := by simp [k]
              rw [hkl] at hfc hcs
              have hwk : ∀ (i' : Nat) (row : List AV), ((xs.take k).map (·.map AV.pv))[i']? = some row → row.length = es' := by obtain ⟨_, _, _, _, h, _⟩ := hshk; exact h
              have hfc' : (Builtin.firstCells es' k (.slice p xs.length cap)).run P w = .ok cs w := by
                cases p <;> exact hfc
              have hrun : ∀ (w₁ : World), (match pd with | some a => storeCells a cs.toList | none => pure ()).run P w = .ok () w₁ →
                  (do pure (.value (← Builtin.copy_ #[dT, sT] ty #[.slice pd n capd, ρ y])) : Sem Next).run P w = .ok (.value (.int .i64 k)) w₁ := by
                intro w₁ hst
                rw [hv]
                unfold Builtin.copy_
                have hk' : Nat.min xs.length n = k := rfl
                simp only [List.length_map, List.getElem?_toArray, List.getElem?_cons_zero, List.getElem?_cons_succ, Sem.run_bind, run_under ht, Result.andThen_ok, Builtin.lenOf, Sem.run_pure, run_sizeOf' hs, hk', hfc']
                cases pd with
                | none => simp at hst; subst hst; simp [goInt]
                | some a => simp only at hst; simp [hst, goInt]
              have hobj := hc.sims.obj b _ hf
              rcases hcase with ⟨h0, _⟩ | ⟨r, c, T, fz, hr', rfl, hheap, hsz⟩
              · -- nothing is copied
                have hk0 : k = 0 := by simp [k, h0]
                have hcs0 : cs = #[] := Array.eq_empty_of_size_eq_zero (by rw [hcs, hk0]; simp)
                have hr2 := hrun w (by subst hcs0; cases pd <;> simp [storeCells])
                have hrows : rows.take i ++ xs.take (min xs.length n) ++ rows.drop (i + min xs.length n) = rows := by
                  have : min xs.length n = 0 := hk0
                  rw [this]; simp
                rw [hrows]
                have hfe := find_upS_self hf
                refine ⟨_, _, w, hr2, .inl rfl, I, ι, D, ?_, ?_, .pv (.int _ _), fun _ h => .inl h⟩
                · simp only [upAll]
                  exact ⟨⟨hc.sims.bnd, fun b o => by rw [hfe]; exact hc.sims.dom b o, fun b b' o o' r => by rw [hfe]; exact hc.sims.inj b b' o o' r, fun b o r => by rw [hfe]; exact hc.sims.ge b o r, fun b o r k => by rw [hfe]; exact hc.sims.sep b o r k,
                    fun b o h => by rw [hfe] at h; exact (hc.sims.obj b o h).mono ⟨⟨fun _ _ _ hi hx => ⟨hx, hi⟩, fun _ h => h, fun _ o' _ ho => ⟨o', by rw [← hfe]; exact ho, rfl, rfl, rfl⟩, fun _ c _ fz hr => ⟨c, fz, hr, rfl⟩, fun _ _ => rfl⟩, fun _ _ _ h => h⟩ rfl fun _ _ => rfl⟩, hc.below, hc.hB, hc.ext, hc.old⟩
                · simp only [upAll]
                  exact ⟨⟨fun _ _ _ hi hx => ⟨hx, hi⟩, fun _ h => h, fun _ o' _ ho => ⟨o', by rw [← hfe]; exact ho, rfl, rfl, rfl⟩, fun _ c _ fz hr => ⟨c, fz, hr, rfl⟩, fun _ _ => rfl⟩, fun _ _ _ h => h⟩
              · rcases hobj with ⟨h1, _⟩ | ⟨r', c', T', fz', k1, k2, k3, k4, k5⟩
                · rw [hr'] at h1; cases h1
                rw [hr'] at k1; cases k1
                rw [hheap] at k2; cases k2
                simp only [SObj.len, SObj.es] at k4 hlen hsz k5
                have hcl : cs.toList.length = k * es' := by simpa using hcs
                have hkn : k ≤ n := Nat.min_le_right _ _
                have hfit : i * es' + 0 + cs.toList.length ≤ c.size := by
                  have h1 : (i + k) * es' ≤ rows.length * es' := Nat.mul_le_mul_right _ (by omega)
                  rw [Nat.add_mul] at h1; omega
                have hgB : B ≤ r := hc.sims.ge b _ r hf hr'
                obtain ⟨w', c', s1, s2, s3, s4, s5, s6⟩ := run_storeCells' (P := P) r (i * es') cs.toList 0 c T fz w hheap k3 hfit (all_one (by rw [hkl]; exact hcs) hwk hg) hgB hc.below
                simp only [Nat.add_zero] at s3
                have hr2 := hrun w' (by simpa [SObj.es] using s1)
                have hkx : k ≤ xs.length := Nat.min_le_left _ _
                have hlen' : (rows.take i ++ xs.take k ++ rows.drop (i + k)).length = rows.length := by simp; omega
                have hget : ∀ i', (rows.take i ++ xs.take k ++ rows.drop (i + k))[i']? = if i ≤ i' ∧ i' < i + k then xs[i' - i]? else rows[i']? := by
                  intro i'
                  have hl1 : (rows.take i).length = i := by simp; omega
                  have hl2 : (xs.take k).length = k := by simp; omega
                  by_cases hlt : i' < i
                  · rw [if_neg (by omega), List.append_assoc, List.getElem?_append_left (by omega), List.getElem?_take_of_lt hlt]
                  · by_cases hlt2 : i' < i + k
                    · rw [if_pos ⟨by omega, hlt2⟩, List.append_assoc, List.getElem?_append_right (by omega), hl1, List.getElem?_append_left (by omega), List.getElem?_take_of_lt (by omega)]
                    · rw [if_neg (by omega), List.getElem?_append_right (by simp; omega), List.getElem?_drop]
                      congr 1; simp; omega
                obtain ⟨hS, hL⟩ := hc.sims.write (o' := .arr es' (rows.take i ++ xs.take k ++ rows.drop (i + k)) false) (c' := c') (w' := w') hf hr' rfl rfl rfl hlen' k3 k4 hheap s2 s3.1 s5 s4 (fun i' row hrw => by
                  simp only [SObj.row?, SObj.es] at hrw ⊢
                  split at hrw
                  · rename_i pr hpr
                    cases hrw
                    rw [hget] at hpr
                    by_cases hin' : i ≤ i' ∧ i' < i + k
                    · rw [if_pos hin'] at hpr
                      have hpr' : ((xs.take k).map (·.map AV.pv))[i' - i]? = some (pr.map AV.pv) := by
                        rw [List.getElem?_map, List.getElem?_take_of_lt (by omega), hpr]; rfl
                      refine ⟨hwk _ _ hpr', fun j v hv => ?_⟩
                      obtain ⟨x, hx', hrep⟩ := hg (i' - i) j _ v hpr' hv
                      refine ⟨x, ?_, hrep⟩
                      have e1 : i' * es' + j = i * es' + ((i' - i) * es' + j) := by
                        have : i' = i + (i' - i) := by omega
                        conv => lhs; rw [this, Nat.add_mul]
                        omega
                      have hlt := (Array.getElem?_eq_some_iff.1 hx').1
                      rw [s3.2, e1, if_pos ⟨by omega, by rw [hcl, ← hcs]; omega⟩, Nat.add_sub_cancel_left]
                      simpa using hx'
                    · rw [if_neg hin'] at hpr
                      obtain ⟨q1, q2⟩ := k5 i' (pr.map .pv) (by simp [SObj.row?, hpr])
                      refine ⟨q1, fun j v hv => ?_⟩
                      obtain ⟨x, hx', hrep⟩ := q2 j v hv
                      have hj : j < es' := by rw [← q1]; exact (List.getElem?_eq_some_iff.1 hv).1
                      refine ⟨x, ?_, hrep⟩
                      rw [s3.2, if_neg]; exact hx'
                      rw [hcl]
                      rintro ⟨g1, g2⟩
                      rcases Nat.lt_or_ge i' i with hlt | hge
                      · have : (i' + 1) * es' ≤ i * es' := Nat.mul_le_mul_right _ hlt
                        rw [Nat.add_mul, Nat.one_mul] at this; omega
                      · have : (i + k) * es' ≤ i' * es' := Nat.mul_le_mul_right _ (by omega)
                        rw [Nat.add_mul] at this; omega
                  · cases hrw)
                exact ⟨_, _, w', hr2, .inl rfl, I, ι, D, ⟨hS, s6, hc.hB, hc.ext, hc.old⟩, hL, .pv (.int _ _), fun _ h => .inl h⟩
          · cases h
        · cases h
      · cases h
    · cases h
  · cases h


omit hn in
theorem snd_clear {t el es ty : Nat} {zero : List PV} {x : Operand} {x' : RA} (ht : P.underlying t = some (.slice el)) (hs : chkSize P el es = true) (hz : chkZero P el (zero.map .pv) = true) (hall : allCells (zero.map .pv) = true) (h1 : chkA x x' = true)
    (h : step σ nm ev (.clear es zero x') = some e) : Good P B w0 I0 w I ι σ D nm e (do pure (.value (← Builtin.clear_ #[t] ty #[ρ x]))) := by
  simp only [step] at h
  have hx := hev _ _ h1
  split at h
  · rename_i b i n hb
    split at h
    · rename_i es' rows hf
      split at h
      · rename_i hle
        obtain ⟨rfl, hin, hpos, hzl⟩ := hle
        cases h
        rw [hb] at hx
        generalize ρ x = X at hx
        cases hx with
        | own hD hone hx =>
          obtain ⟨p, cap, rfl, hlen, ⟨hcap, hend⟩, hcase⟩ := hx _ hf
          simp only [SObj.len, SObj.es] at hlen hend hcase
          obtain ⟨z, hzr, hzc⟩ := run_zero' hz w
          have hzcr := chkVs_cells (w := w) (I := I) (ι := ι) (σ := σ) (D := D) hzc
          have hzs : z.cells.size = es' := by have := hzcr.1; simp at this; omega
          have hz0 := zeros_rep (w := w) (I := I) (ι := ι) (σ := σ) (D := D) (zero := z.cells) (zeros := zero.map .pv) (n := n) (es := es') (fun _ => hzcr) (by simp [hzl])
          let cs : Array Value := Builtin.zeroCells z.cells n
          have hcse : cs = (Array.range (n * es')).map (z.cells[· % z.cells.size]!) := by show Builtin.zeroCells z.cells n = _; unfold Builtin.zeroCells; rw [hzs]
          let xs : List (List PV) := List.replicate n zero
          have hxl : xs.length = n := by simp [xs]
          have hcs : cs.size = (xs.map (·.map AV.pv)).length * es' := by rw [hcse]; simp [xs]
          have hrowe : ∀ (i' : Nat) (row : List AV), (xs.map (·.map AV.pv))[i']? = some row → row = zero.map .pv ∧ i' < n := by
            intro i' row hr
            have hi' : i' < n := by have := (List.getElem?_eq_some_iff.1 hr).1; simpa [xs] using this
            simp only [xs, List.map_replicate, List.getElem?_replicate_of_lt hi', Option.some.injEq] at hr
            exact ⟨hr.symm, hi'⟩
          have hwx : ∀ (i' : Nat) (row : List AV), (xs.map (·.map AV.pv))[i']? = some row → row.length = es' := by
            intro i' row hr
            rw [(hrowe i' row hr).1]; simp [hzl]
          have hg : ∀ (i' j : Nat) (row : List AV) (q : AV), (xs.map (·.map AV.pv))[i']? = some row → row[j]? = some q → ∃ x, cs[i' * es' + j]? = some x ∧ RepC w I ι σ D x q := by
            intro i' j row q hr hq
            obtain ⟨rfl, hi'⟩ := hrowe i' row hr
            have hj : j < es' := by have := (List.getElem?_eq_some_iff.1 hq).1; simpa [hzl] using this
            have hb2 : i' * es' + es' ≤ n * es' := by
              calc i' * es' + es' = (i' + 1) * es' := by rw [Nat.add_mul, Nat.one_mul]
                _ ≤ n * es' := Nat.mul_le_mul_right _ hi'
            have hlt : i' * es' + j < cs.size := by rw [hcs, List.length_map, hxl]; omega
            have hrp := hz0.2 (i' * es' + j) (cs[i' * es' + j]) q (by rw [← hcse]; exact Array.getElem?_eq_getElem hlt) (by
              rw [flat_get _ n _ (by simp [hzl]; omega)]
              simp only [List.length_map, hzl]
              rw [Nat.mul_comm i' es', Nat.mul_add_mod, Nat.mod_eq_of_lt hj]
              exact hq)
            exact ⟨_, Array.getElem?_eq_getElem hlt, hrp.oneCell (allCells_spec hall q (List.mem_of_getElem? hq)), hrp⟩
          rcases hcase with ⟨h0, _⟩ | ⟨r, c, T, fz, hr, rfl, hheap, hsz⟩
          · omega
          rcases hc.sims.obj b _ hf with ⟨h1, _⟩ | ⟨r', c', T', fz', k1, k2, k3, k4, k5⟩
          · rw [hr] at h1; cases h1
          rw [hr] at k1; cases k1
          rw [hheap] at k2; cases k2
          simp only [SObj.len, SObj.es] at k4 k5
          rw [List.length_map, hxl] at hcs
          have hcl : cs.toList.length = n * es' := by simpa using hcs
          have hfit : i * es' + 0 + cs.toList.length ≤ c.size := by
            have h1 : (i + n) * es' ≤ rows.length * es' := Nat.mul_le_mul_right _ hin
            rw [Nat.add_mul] at h1; omega
          have hgB : B ≤ r := hc.sims.ge b _ r hf hr
          obtain ⟨w', c', s1, s2, s3, s4, s5, s6⟩ := run_storeCells' (P := P) r (i * es') cs.toList 0 c T fz w hheap k3 hfit (all_one (by rw [List.length_map, hxl]; exact hcs) hwx hg) hgB hc.below
          simp only [Nat.add_zero] at s3
          have hrun : (do pure (.value (← Builtin.clear_ #[t] ty #[.slice (some ⟨r, i * es', none⟩) n cap])) : Sem Next).run P w = .ok (.value (.tuple #[])) w' := by
            unfold Builtin.clear_
            obtain ⟨n', rfl⟩ : ∃ n', n = n' + 1 := ⟨n - 1, by omega⟩
            have s1' : (storeCells ⟨r, i * es', none⟩ (Builtin.zeroCells z.cells (n' + 1)).toList).run P w = .ok () w' := by simpa using s1
            simp [run_under ht, hzr, s1']
          have hget : ∀ i', (rows.take i ++ xs ++ rows.drop (i + n))[i']? = if i ≤ i' ∧ i' < i + n then xs[i' - i]? else rows[i']? := by
            intro i'
            have hl1 : (rows.take i).length = i := by simp; omega
            by_cases hlt : i' < i
            · rw [if_neg (by omega), List.append_assoc, List.getElem?_append_left (by omega), List.getElem?_take_of_lt hlt]
            · by_cases hlt2 : i' < i + n
              · rw [if_pos ⟨by omega, hlt2⟩, List.append_assoc, List.getElem?_append_right (by omega), hl1, List.getElem?_append_left (by omega)]
              · rw [if_neg (by omega), List.getElem?_append_right (by simp [xs]; omega), List.getElem?_drop]
                congr 1; simp [xs]; omega
          have hlen' : (rows.take i ++ xs ++ rows.drop (i + n)).length = rows.length := by simp [xs]; omega
          obtain ⟨hS, hL⟩ := hc.sims.write (o' := .arr es' (rows.take i ++ xs ++ rows.drop (i + n)) false) (c' := c') (w' := w') hf hr rfl rfl rfl hlen' k3 k4 hheap s2 s3.1 s5 s4 (fun i' row hrw => by
            simp only [SObj.row?, SObj.es] at hrw ⊢
            split at hrw
            · rename_i pr hpr
              cases hrw
              rw [hget] at hpr
              by_cases hin' : i ≤ i' ∧ i' < i + n
              · rw [if_pos hin'] at hpr
                have hpr' : (xs.map (·.map AV.pv))[i' - i]? = some (pr.map AV.pv) := by
                  rw [List.getElem?_map, hpr]; rfl
                refine ⟨hwx _ _ hpr', fun j v hv => ?_⟩
                obtain ⟨x, hx', hrep⟩ := hg (i' - i) j _ v hpr' hv
                refine ⟨x, ?_, hrep⟩
                have e1 : i' * es' + j = i * es' + ((i' - i) * es' + j) := by
                  have : i' = i + (i' - i) := by omega
                  conv => lhs; rw [this, Nat.add_mul]
                  omega
                have hlt := (Array.getElem?_eq_some_iff.1 hx').1
                rw [s3.2, e1, if_pos ⟨by omega, by rw [hcl, ← hcs]; omega⟩, Nat.add_sub_cancel_left]
                simpa using hx'
              · rw [if_neg hin'] at hpr
                obtain ⟨q1, q2⟩ := k5 i' (pr.map .pv) (by simp [SObj.row?, hpr])
                refine ⟨q1, fun j v hv => ?_⟩
                obtain ⟨x, hx', hrep⟩ := q2 j v hv
                have hj : j < es' := by rw [← q1]; exact (List.getElem?_eq_some_iff.1 hv).1
                refine ⟨x, ?_, hrep⟩
                rw [s3.2, if_neg]; exact hx'
                rw [hcl]
                rintro ⟨g1, g2⟩
                rcases Nat.lt_or_ge i' i with hlt | hge
                · have : (i' + 1) * es' ≤ i * es' := Nat.mul_le_mul_right _ hlt
                  rw [Nat.add_mul, Nat.one_mul] at this; omega
                · have : (i + n) * es' ≤ i' * es' := Nat.mul_le_mul_right _ (by omega)
                  rw [Nat.add_mul] at this; omega
            · cases hrw)
          exact ⟨_, .tuple #[], w', hrun, .inl rfl, I, ι, D, ⟨hS, s6, hc.hB, hc.ext, hc.old⟩, hL, .tup rfl (fun j x q hx => by simp at hx), fun _ h => .inl h⟩
      · cases h
    · cases h
  · cases h

end
end Go.Ab
