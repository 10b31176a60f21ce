/- defineresource in a draft's state. Under: nothing. -/
import Derived.Test.YtblkalcialfiaaaDoorTdTy
import Derived.Test.YtblkalcialfiaaaDoorTdK
namespace Go.Ab.Td
open Go Go.Ab
variable {P : Program}
theorem heap_at {h : List Cl} (t : HeapT h) : h[4]? = some catT ∧ (∀ j : Nat, 5 ≤ j → j ≤ 9 → h[j]? = some (dct [] [] 10)) ∧ 10 ≤ h.length := by
  obtain ⟨more, rfl, hm, hall⟩ := t
  refine ⟨rfl, fun j h1 h2 => ?_, by simp [firstT]⟩
  have : j = 5 ∨ j = 6 ∨ j = 7 ∨ j = 8 ∨ j = 9 := by omega
  rcases this with rfl | rfl | rfl | rfl | rfl <;> rfl
theorem right_dict (j : Int) (h0 : 0 ≤ j) (h1 : j ≤ 20000) : (dO j).right := by
  unfold Ob.right Ob.blank dO; simp; omega
theorem vErr_dict {h : List Cl} {j : Int} {c : Cl} (h0 : 0 ≤ j) (h1 : j ≤ 20000) (hc : h[j.toNat]? = some c) (hk : c.kind = 3) : vErr h (dO j) [9] = 0 ∧ cellAt h (dO j) = c := by
  have hca : cellAt h (dO j) = c := by show (h[j.toNat]?).getD cl0 = c; rw [hc]; rfl
  have hf : fits h (dO j) := (fits_iff (right_dict j h0 h1)).2 (.inr ⟨by have := (List.getElem?_eq_some_iff.1 hc).1; show j < _; omega, by rw [hca, hk]; rfl, .inl rfl⟩)
  refine ⟨?_, hca⟩
  unfold vErr
  rw [if_neg (Classical.not_not.2 hf), if_pos (by simp [dO])]
theorem cat_cases {cs : List UInt8} (h : cs ∈ cats) : ∃ j : Int, 5 ≤ j ∧ j ≤ 9 ∧ look catT (nmO cs) = some (dO j) ∧ cs.length ≤ 100 := by
  simp only [cats, List.mem_cons, List.not_mem_nil, or_false] at h
  rcases h with rfl | rfl | rfl | rfl | rfl
  · exact ⟨5, by decide, by decide, by simp [look, catT, dct, cats, idxFrom, nmO], by decide⟩
  · exact ⟨6, by decide, by decide, by simp [look, catT, dct, cats, idxFrom, nmO], by decide⟩
  · exact ⟨7, by decide, by decide, by simp [look, catT, dct, cats, idxFrom, nmO], by decide⟩
  · exact ⟨8, by decide, by decide, by simp [look, catT, dct, cats, idxFrom, nmO], by decide⟩
  · exact ⟨9, by decide, by decide, by simp [look, catT, dct, cats, idxFrom, nmO], by decide⟩
theorem dic_cat {h : List Cl} (t : HeapT h) {cs : List UInt8} (hc : cs ∈ cats) : ∃ j : Int, 5 ≤ j ∧ j ≤ 9 ∧ dicE h (nmO cs) = 0 ∧ dicO h (nmO cs) = dO j := by
  obtain ⟨h4, _, _⟩ := heap_at t
  obtain ⟨j, h5, h9, hl, _⟩ := cat_cases hc
  obtain ⟨v1, v2⟩ := vErr_dict (j := 4) (by decide) (by decide) h4 rfl
  have e1 : dicE h (nmO cs) = 0 := by
    unfold dicE
    rw [if_pos ⟨v1, by rw [show cellAt h catD = catT from v2, hl]; exact ⟨rfl, rfl⟩⟩]
  refine ⟨j, h5, h9, e1, ?_⟩
  unfold dicO
  rw [if_pos e1, show cellAt h catD = catT from v2, hl]
  rfl
theorem key_nm {h : List Cl} {s : List UInt8} (hs : s.length ≤ 100) : hKey h (nmO s) = (nmO s, 0) := by
  have hr : (nmO s).right := (right_nm s false).2 hs
  have hf : fits h (nmO s) := ⟨hr, fun hk => absurd rfl hk⟩
  unfold hKey
  rw [if_neg (Classical.not_not.2 hf), if_neg (by simp [nmO]), if_neg (by simp [nmO])]
  simp [Ob.key, nmO]
def sNew : List UInt8 := [110, 101, 119]
section
variable {s : Sta} (hs : StaT s) {cs : List UInt8} (hc : cs ∈ cats) (o : Ob) (ho : o.n < 9223372036854775808)
def ask3 (s : Sta) (o : Ob) (cs : List UInt8) : Sta := { s with ops := [nmO sNew, o, nmO cs] }
include hs hc ho in
theorem ask3_ok : nOk (ask3 s o cs) ∧ askE (ask3 s o cs) 3 = 0 ∧ (hKey (ask3 s o cs).heap (opA (ask3 s o cs) 3 0)).1 = nmO sNew ∧ opA (ask3 s o cs) 3 1 = o ∧ (hKey (ask3 s o cs).heap (opA (ask3 s o cs) 3 (3 - 1))).1 = nmO cs ∧
    ∃ j : Int, 5 ≤ j ∧ j ≤ 9 ∧ dicO (ask3 s o cs).heap (nmO cs) = dO j ∧ vErr (ask3 s o cs).heap (dO j) [9] = 0 ∧ ∃ t, putKV (cellAt (ask3 s o cs).heap (dO j)) (nmO sNew) o = some t := by
  have hn := hs.nOk [nmO sNew, o, nmO cs] (by simp) (by intro x hx; simp at hx; rcases hx with rfl | rfl | rfl <;> first | exact ho | simp [nmO])
  obtain ⟨ops, dicts, heap, rfl, ht, _⟩ := hs
  obtain ⟨_, _, _, _, hcl⟩ := cat_cases hc
  obtain ⟨j, h5, h9, e1, e2⟩ := dic_cat ht hc
  obtain ⟨_, hd, _⟩ := heap_at ht
  have hj := hd j.toNat (by omega) (by omega)
  obtain ⟨v1, v2⟩ := vErr_dict (by omega) (by omega) hj rfl
  have k1 : hKey heap (nmO sNew) = (nmO sNew, 0) := key_nm (by decide)
  have k2 : hKey heap (nmO cs) = (nmO cs, 0) := key_nm hcl
  have a0 : opA (ask3 (mkS ops dicts heap) o cs) 3 0 = nmO sNew := rfl
  have a1 : opA (ask3 (mkS ops dicts heap) o cs) 3 1 = o := rfl
  have a2 : opA (ask3 (mkS ops dicts heap) o cs) 3 (3 - 1) = nmO cs := rfl
  have hh : (ask3 (mkS ops dicts heap) o cs).heap = heap := rfl
  refine ⟨hn, ?_, by rw [a0, hh, k1], a1, by rw [a2, hh, k2], j, h5, h9, by rw [hh]; exact e2, v1, ?_⟩
  · unfold askE
    rw [a0, a2, hh, k1, k2]
    rw [if_neg (by simp [ask3]), if_neg (by simp [nmO]), if_neg (by simp), if_neg (by simp)]
    exact e1
  · rw [hh, v2]
    exact ⟨_, by simp [putKV, dct, idxFrom]; rfl⟩
end
end Go.Ab.Td
