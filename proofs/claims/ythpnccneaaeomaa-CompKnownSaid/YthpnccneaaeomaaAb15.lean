/- One operation's soundness: slice literals, made slices, bytes of strings, maps. Under: nothing. -/
import Derived.Test.YthpnccneaaeomaaAb14
import Derived.IntWalk
namespace Go.Ab
open Go.RowKit
section
variable {P : Program} {B : Nat} {w0 : World} {I0 : Imm} {w w' : World} {I : Imm} {ι : Nat → Option Nat} {σ : Store} {D : Nat → Prop} {nm : Nat} {ρ : Operand → Value} {ev : RA → AV} {e : Eff}

theorem flat_get {α : Type} (l : List α) : ∀ (n k : Nat), k < n * l.length → (List.replicate n l).flatten[k]? = l[k % l.length]?
  | 0, k, h => by simp at h
  | n + 1, k, h => by
    rw [List.replicate_succ, List.flatten_cons]
    by_cases hk : k < l.length
    · rw [List.getElem?_append_left hk, Nat.mod_eq_of_lt hk]
    · have hpos : 0 < l.length := by
        rcases Nat.eq_zero_or_pos l.length with h0 | h0
        · rw [h0] at h; simp at h
        · exact h0
      rw [List.getElem?_append_right (by omega), flat_get l n (k - l.length) (by rw [Nat.add_mul, Nat.one_mul] at h; omega)]
      congr 1
      have : k = (k - l.length) + l.length := by omega
      rw [this, Nat.add_mod_right]; simp

theorem chop_get (es : Nat) : ∀ (n : Nat) (cs : List AV) (i : Nat), i < n → (step.chop es n cs)[i]? = some ((cs.drop (i * es)).take es)
  | 0, _, _, h => by omega
  | n + 1, cs, 0, _ => by simp [step.chop]
  | n + 1, cs, i + 1, h => by
    simp only [step.chop, List.getElem?_cons_succ]
    rw [chop_get es n _ i (by omega), List.drop_drop]
    congr 3
    rw [Nat.add_mul]; omega

theorem chop_length (es : Nat) : ∀ (n : Nat) (cs : List AV), (step.chop es n cs).length = n
  | 0, _ => rfl
  | n + 1, cs => by simp [step.chop, chop_length es n]

theorem chop_rows {c : Array Value} {cs : List AV} {es n : Nat} (h : CellsRep w I ι σ D c cs) (hall : allCells cs = true) (hl : cs.length = n * es) : RowsIn w I ι σ D c es (fun i => (step.chop es n cs)[i]?) := by
  intro i row hr
  dsimp only at hr
  have hi : i < n := by have := (List.getElem?_eq_some_iff.1 hr).1; rwa [chop_length] at this
  rw [chop_get es n cs i hi] at hr; cases hr
  have hb : i * es + es ≤ n * es := by
    calc i * es + es = (i + 1) * es := by rw [Nat.add_mul, Nat.one_mul]
      _ ≤ n * es := Nat.mul_le_mul_right _ hi
  refine ⟨by simp; omega, fun j v hv => ?_⟩
  have hj : j < es := by have := (List.getElem?_eq_some_iff.1 hv).1; simp at this; omega
  rw [List.getElem?_take_of_lt hj, List.getElem?_drop] at hv
  have hlt : i * es + j < c.size := by rw [h.1]; omega
  have hrp := h.2 _ _ _ (Array.getElem?_eq_getElem hlt) hv
  exact ⟨c[i * es + j], Array.getElem?_eq_getElem hlt, hrp.oneCell (allCells_spec hall _ (List.mem_of_getElem? hv)), hrp⟩

theorem zeros_rep {zero : Array Value} {zeros : List AV} {n es : Nat} (h : n * es ≠ 0 → CellsRep w I ι σ D zero zeros) (hl : zeros.length = es) :
    CellsRep w I ι σ D ((Array.range (n * es)).map (zero[· % zero.size]!)) (List.replicate n zeros).flatten := by
  refine ⟨by simp [hl], fun j x q hx hq => ?_⟩
  have hj : j < n * es := by have := (Array.getElem?_eq_some_iff.1 hx).1; simpa using this
  have hz := h (by omega)
  have hes : 0 < es := by rcases Nat.eq_zero_or_pos es with h0 | h0; (rw [h0] at hj; simp at hj); exact h0
  rw [flat_get zeros n j (by rw [hl]; exact hj), hl] at hq
  simp only [Array.getElem?_map, Array.getElem?_range, hj, if_true, Option.map_some, Option.some.injEq] at hx
  have hsz : zero.size = es := hz.1.trans hl
  have hm : j % es < zero.size := by rw [hsz]; exact Nat.mod_lt _ hes
  rw [hsz, getElem!_pos zero (j % es) hm] at hx
  exact hz.2 (j % es) x q (by rw [Array.getElem?_eq_getElem hm, hx]) hq

theorem fillA_length : ∀ (qs : List (Nat × Nat × AV)) (as r : List AV), fillA as qs = some r → r.length = as.length
  | [], as, r, h => by simp only [fillA] at h; cases h; rfl
  | (o, n, a) :: qs, as, r, h => by
    simp only [fillA] at h
    split at h
    · rename_i hn
      rw [fillA_length qs _ r h, setRange_length (by omega)]
    · cases h

variable (hc : Core B w0 I0 w I ι σ D) (hn : ¬ D nm) (hev : ∀ o r, chkA o r = true → RepA w I ι σ D (ρ o) (ev r))
include hc hn

theorem snd_bsl (hev : ∀ o r, chkA o r = true → RepA w I ι σ D (ρ o) (ev r)) {t el es n : Nat} {zeros : List AV} {parts : Array (Nat × Operand)} {parts' : List (Nat × RA)} (ht : P.underlying t = some (.slice el)) (hs : chkSize P el es = true)
    (hz : chkZero P el zeros = true) (hl : zeros.length = es) (hmax : n * es ≤ 2 ^ 24)
    (hp : chkParts P (fun i => some (i * es, es)) parts.toList (parts'.map fun (i, x) => (i * es, es, x)) = true) (h : step σ nm ev (.bsl es n zeros parts') = some e) :
    Good P B w0 I0 w I ι σ D nm e (do pure (.value (← Instr.buildSlice t n (parts.map fun (i, x) => (i, ρ x))))) := by
  simp only [step] at h
  split at h
  · rename_i cs hcs
    split at h
    case isFalse => cases h
    rename_i hall
    cases h
    obtain ⟨z, hzr, hzc⟩ := run_zero' hz w
    obtain ⟨e1, e2⟩ := chkParts_spec (P := P) hev _ _ hp
    have hmm : ((parts'.map fun (i, x) => (i * es, es, x)).map fun (o, n, x) => (o, n, ev x)) = parts'.map fun (i, x) => (i * es, es, ev x) := by simp [List.map_map, Function.comp_def]
    rw [hmm] at e1 e2
    have hz0 : CellsRep w I ι σ D ((Array.range (n * es)).map ((if n * es = 0 then #[] else z.cells)[· % (if n * es = 0 then #[] else z.cells).size]!)) (List.replicate n zeros).flatten :=
      zeros_rep (fun hne => by rw [if_neg hne]; exact chkVs_cells hzc) hl
    obtain ⟨c', hf, hrep⟩ := run_fill (place := fun i => some (i * es, es)) _ _ _ _ cs e1 e2 hz0 hcs
    have hcl : cs.length = n * es := by rw [fillA_length _ _ _ hcs]; simp [hl]
    obtain ⟨m1, m2, m3, m4, m5⟩ := mkObj_spec (chop_rows hrep hall hcl)
    have hlist : (parts.map fun (i, x) => (i, ρ x)).toList = parts.toList.map fun p => (p.1, ρ p.2) := by simp
    refine good_new (w' := w.alloc (.cells c' el)) (v := .slice (some ⟨w.heap.size, 0, none⟩) n n) (c := c') (T := el) (fz := (0, 0)) hc hn ?_ rfl (below_alloc hc _) (.inr (Nat.le_refl _)) m3 ?_ (by rw [m1]; exact m5) rfl ?_
    · unfold Instr.buildSlice
      simp only [Sem.run_bind, run_under ht, Result.andThen_ok, run_sizeOf' hs, Sem.run_ite, if_neg (show ¬ n * es > 2 ^ 24 by omega)]
      by_cases h0 : n * es = 0
      · simp only [if_pos h0] at hf ⊢
        simp only [Sem.run_pure, Result.andThen_ok, hlist, hf]
        simp [newRow]
      · simp only [if_neg h0] at hf ⊢
        simp only [hzr, Sem.run_pure, Result.andThen_ok, hlist, hf]
        simp [newRow]
    · rw [m1, m2, chop_length, hrep.1, hcl]; exact Nat.le_refl _
    · refine rep_newown (c := c') (T := el) (fz := (0, 0)) (.inr rfl) (by simp [setι]) (by show (w.heap.push _)[w.heap.size]? = _; simp) (by rw [m2, chop_length]) (Nat.le_refl _) (by rw [m1, hrep.1, hcl]; exact Nat.le_refl _)
  · cases h

theorem snd_mkmap {t : TypeId} (h : step σ nm ev .mkmap = some e) :
    Good P B w0 I0 w I ι σ D nm e (do pure (.value (← Instr.makeMap t none))) := by
  simp only [step] at h; cases h
  have hBw : B ≤ w.heap.size := Nat.le_trans hc.hB hc.below.size
  obtain ⟨hs, hL⟩ := hc.sims.newMap (w' := w.alloc (.map #[] 0)) hBw hn rfl
  refine ⟨_, .map (some w.heap.size), w.alloc (.map #[] 0), by simp [Instr.makeMap], .inl rfl, I, setι ι nm (some w.heap.size), addD D nm, ⟨hs, below_alloc hc _, hc.hB, hc.ext, hc.old⟩, hL, ?_, ?_⟩
  · refine .mref (.inr rfl) rfl fun o' ho' => ⟨w.heap.size, by simp [setι], rfl⟩
  · rintro b (h | rfl)
    · exact .inl h
    · exact .inr ⟨Nat.le_refl _, by simp [stride]⟩

theorem snd_mksl (hev : ∀ o r, chkA o r = true → RepA w I ι σ D (ρ o) (ev r)) {t el es bytes : Nat} {zero : List PV} {x y : Operand} {x' : RA} {ie : TypeInfo} (ht : P.underlying t = some (.slice el)) (hi : P.info? el = some ie) (hie : ie.size = es) (hby : ie.bytes = bytes)
    (hz : chkZero P el (zero.map .pv) = true) (hall : allCells (zero.map .pv) = true) (h1 : chkA x x' = true) (h2 : chkA y x' = true) (h : step σ nm ev (.mksl es bytes zero x') = some e) :
    Good P B w0 I0 w I ι σ D nm e (do pure (.value (← Instr.makeSlice t (ρ x) (ρ y)))) := by
  simp only [step] at h
  split at h
  · rename_i k hk
    split at h
    · rename_i hle
      cases h
      obtain ⟨kx, ex⟩ := idx_inv hev h1 hk
      obtain ⟨ky, ey⟩ := idx_inv hev h2 hk
      obtain ⟨z, hzr, hzc⟩ := run_zero' hz w
      have hs : chkSize P el es = true := by simp [chkSize, hi, hie]
      obtain ⟨n, rfl⟩ := Int.eq_ofNat_of_zero_le hle.1
      simp only [Int.toNat_natCast] at hle ⊢
      have hz0 := zeros_rep (w := w) (I := I) (ι := ι) (σ := σ) (D := D) (zero := if n * es = 0 then #[] else z.cells) (zeros := zero.map .pv) (n := n) (es := es) (fun hne => by rw [if_neg hne]; exact chkVs_cells hzc) (by simp [hle.2.2.1])
      have hc0 := hz0.1
      refine good_new (w' := w.alloc (.cells ((Array.range (n * es)).map ((if n * es = 0 then #[] else z.cells)[· % (if n * es = 0 then #[] else z.cells).size]!)) el)) (v := .slice (some ⟨w.heap.size, 0, none⟩) n n) (T := el) (fz := (0, 0)) hc hn ?_ rfl (below_alloc hc _) (.inr (Nat.le_refl _)) rfl ?_ ?_ rfl ?_
      · have hn40 : (n : Int) ≤ 2 ^ 40 := Int.le_trans (by
          have := Nat.mul_le_mul_left n hle.2.2.2
          rw [Nat.succ_eq_add_one, Nat.zero_add, Nat.mul_one] at this
          exact_mod_cast this) hle.2.1
        have hwrap : IntKind.i64.wrap (n : Int) = n := IntWalk.i64_in _ (by omega)
        have hbig : ¬ ((bytes : Int) * n > 2 ^ 48) := by
          have := hle.2.1
          rw [Int.mul_comm] at this
          omega
        rw [ex, ey]
        unfold Instr.makeSlice
        simp only [Sem.run_bind, run_under ht, Result.andThen_ok, asInt, asIntOf, Sem.run_pure, typeInfo, run_program, hi, hby, hwrap, Sem.run_ite]
        rw [if_neg (by simp; omega)]
        simp only [run_askRoom, Result.andThen_ok, run_sizeOf' hs, Int.toNat_natCast]
        by_cases h0 : n * es = 0
        · simp [h0, newRow]
        · simp [h0, hzr, newRow]
      · simp only [SObj.len, SObj.es, List.length_replicate]
        rw [hc0]; simp [hle.2.2.1]
      · intro i row hr
        simp only [SObj.row?, SObj.es] at hr ⊢
        split at hr
        · rename_i p hp
          cases hr
          have hi' : i < n := by have := (List.getElem?_eq_some_iff.1 hp).1; simpa using this
          rw [List.getElem?_replicate_of_lt hi'] at hp; cases hp
          refine ⟨by simp [hle.2.2.1], fun j v hv => ?_⟩
          have hj : j < es := by have := (List.getElem?_eq_some_iff.1 hv).1; simpa [hle.2.2.1] using this
          have hb : i * es + es ≤ n * es := by
            calc i * es + es = (i + 1) * es := by rw [Nat.add_mul, Nat.one_mul]
              _ ≤ n * es := Nat.mul_le_mul_right _ hi'
          have hlt : i * es + j < ((Array.range (n * es)).map ((if n * es = 0 then #[] else z.cells)[· % (if n * es = 0 then #[] else z.cells).size]!)).size := by simp; omega
          have hrp := hz0.2 (i * es + j) _ v (Array.getElem?_eq_getElem hlt) (by
            rw [flat_get _ n _ (by simp [hle.2.2.1]; omega)]
            simp only [List.length_map, hle.2.2.1]
            rw [Nat.mul_comm i es, Nat.mul_add_mod, Nat.mod_eq_of_lt hj]
            exact hv)
          exact ⟨_, Array.getElem?_eq_getElem hlt, hrp.oneCell (allCells_spec hall v (List.mem_of_getElem? hv)), hrp⟩
        · cases hr
      · refine rep_newown (T := el) (fz := (0, 0)) (.inr rfl) (by simp [setι]) (by show (w.heap.push _)[w.heap.size]? = _; rw [Array.getElem?_push_size]) (by simp [SObj.len]) (Nat.le_refl _) (by simp [SObj.es])
    · cases h
  · cases h

end
end Go.Ab
