/- defineresource in a draft's state. Under: nothing. -/
import Derived.Test.YtblkalcialfiaaaDoorTdTy
import Derived.Test.YtblkalcialfiaaaDoorTdK
namespace Go.Ab.Td
open Go Go.Ab
variable {P : Program}
theorem heap_at {h : List Cl} (t : HeapT h) : h[4]? = some catT ∧ (∀ j : Nat, 5 ≤ j → j ≤ 9 → h[j]? = some (dct [] [] 10)) ∧ 10 ≤ h.length := by
  obtain ⟨more, rfl, hm, hall⟩ := t
  refine ⟨rfl, fun j h1 h2 => ?_, by simp [firstT]⟩
  have : j = 5 ∨ j = 6 ∨ j = 7 ∨ j = 8 ∨ j = 9 := by omega
  rcases this with rfl | rfl | rfl | rfl | rfl <;> rfl
theorem right_dict (j : Int) (h0 : 0 ≤ j) (h1 : j ≤ 20000) : (dO j).right := by
  unfold Ob.right Ob.blank dO; simp; omega
theorem vErr_dict {h : List Cl} {j : Int} {c : Cl} (h0 : 0 ≤ j) (h1 : j ≤ 20000) (hc : h[j.toNat]? = some c) (hk : c.kind = 3) : vErr h (dO j) [9] = 0 ∧ cellAt h (dO j) = c := by
  have hca : cellAt h (dO j) = c := by show (h[j.toNat]?).getD cl0 = c; rw [hc]; rfl
  have hf : fits h (dO j) := (fits_iff (right_dict j h0 h1)).2 (.inr ⟨by have := (List.getElem?_eq_some_iff.1 hc).1; show j < _; omega, by rw [hca, hk]; rfl, .inl rfl⟩)
  refine ⟨?_, hca⟩
  unfold vErr
  rw [if_neg (Classical.not_not.2 hf), if_pos (by simp [dO])]
theorem cat_cases {cs : List UInt8} (h : cs ∈ cats) : ∃ j : Int, 5 ≤ j ∧ j ≤ 9 ∧ look catT (nmO cs) = some (dO j) ∧ cs.length ≤ 100 := by
  simp only [cats, List.mem_cons, List.not_mem_nil, or_false] at h
  rcases h with rfl | rfl | rfl | rfl | rfl
  · exact ⟨5, by decide, by decide, by simp [look, catT, dct, cats, idxFrom, nmO], by decide⟩
  · exact ⟨6, by decide, by decide, by simp [look, catT, dct, cats, idxFrom, nmO], by decide⟩
  · exact ⟨7, by decide, by decide, by simp [look, catT, dct, cats, idxFrom, nmO], by decide⟩
  · exact ⟨8, by decide, by decide, by simp [look, catT, dct, cats, idxFrom, nmO], by decide⟩
  · exact ⟨9, by decide, by decide, by simp [look, catT, dct, cats, idxFrom, nmO], by decide⟩
theorem key_nm {h : List Cl} {s : List UInt8} (hs : s.length ≤ 100) : hKey h (nmO s) = (nmO s, 0) := by
  have hr : (nmO s).right := (right_nm s false).2 hs
  have hf : fits h (nmO s) := ⟨hr, fun hk => absurd rfl hk⟩
  unfold hKey
  rw [if_neg (Classical.not_not.2 hf), if_neg (by simp [nmO]), if_neg (by simp [nmO])]
  simp [Ob.key, nmO]
section
variable {s : Sta} (hs : StaT s) {cs : List UInt8} (hc : cs ∈ cats) (o : Ob) (ho : o.n < 9223372036854775808)
end
end Go.Ab.Td
