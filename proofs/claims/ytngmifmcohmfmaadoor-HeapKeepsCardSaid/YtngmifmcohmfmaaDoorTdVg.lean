/- Joined texts: TdVp, TdVg. Under: nothing. -/
import Derived.Test.YtngmifmcohmfmaaDoorTdKm
/- Valid heaps: the program's sentence and the reference's are the same; what keeps them valid. Under: nothing. -/
namespace Go.Ab.Td
open Go Go.Ab
set_option linter.unusedSimpArgs false
theorem idx_take (k : Ob) : ∀ (l : List Ob) (i s : Nat), l[i]? = some k → (k ∈ l.take i ↔ idxFrom k s l < s + i)
  | [], _, _, h => by simp at h
  | x :: l, 0, s, h => by
    simp only [List.getElem?_cons_zero, Option.some.injEq] at h
    subst h
    simp [idxFrom]
  | x :: l, i + 1, s, h => by
    simp only [List.getElem?_cons_succ] at h
    have ih := idx_take k l i (s + 1) h
    simp only [List.take_succ_cons, List.mem_cons]
    unfold idxFrom
    by_cases e : x = k
    · rw [if_pos e]; simp [e]; omega
    · rw [if_neg e, ih]
      constructor
      · rintro (e2 | e2)
        · exact absurd e2.symm e
        · omega
      · intro e2; right; omega
theorem keys_iff {l : List Ob} (hr : ∀ o ∈ l, o.right) : keysOk l ↔ keysR l := by
  unfold keysOk keysR
  refine forall_congr' fun i => forall_congr' fun k => ⟨fun h hk => ?_, fun h hk => ?_⟩
  · obtain ⟨h1, h2⟩ := h hk
    have r := hr k (List.mem_of_getElem? hk)
    rw [idx_take k l i 0 hk] at h2
    unfold oKey at h1
    rw [if_neg (fun h => h r)] at h1
    by_cases h06 : k.kind = 0 ∨ k.kind = 6
    · rw [if_pos h06] at h1
      simp at h1
    · rw [if_neg h06] at h1
      simp only [Prod.mk.injEq, and_true] at h1
      exact ⟨by omega, by omega, h1, by omega⟩
  · obtain ⟨h1, h2, h3, h4⟩ := h hk
    have r := hr k (List.mem_of_getElem? hk)
    rw [idx_take k l i 0 hk]
    unfold oKey
    rw [if_neg (fun h => h r), if_neg (by omega), h3]
    exact ⟨rfl, by omega⟩
theorem all3 {p : Ob → Prop} {a b c : List Ob} : (∀ l ∈ [a, b, c], ∀ o ∈ l, p o) ↔ ((∀ o ∈ a, p o) ∧ (∀ o ∈ b, p o) ∧ (∀ o ∈ c, p o)) := by
  simp
theorem keys_nil {l : List Ob} (h : l.length = 0) : keysOk l := by
  rw [List.length_eq_zero_iff.1 h]
  intro i k hk
  simp at hk
theorem all_nil {p : Ob → Prop} {l : List Ob} (h : l.length = 0) : ∀ o ∈ l, p o := by
  rw [List.length_eq_zero_iff.1 h]; simp
theorem cell_iff (h : List Cl) (c : Cl) : okCell h c ↔ cellR h c := by
  unfold okCell keyedP objsOf
  rw [all3]
  unfold bareP limP cellR
  by_cases k1 : c.kind = 1
  · rw [if_pos k1]
    constructor
    · rintro ⟨⟨-, b1, b2, b3⟩ | ⟨e, -⟩ | ⟨e, -⟩ | ⟨e, -⟩, hl, -⟩
      · exact .inl ⟨k1, hl, by omega, by omega, by omega, b2, b3⟩
      all_goals omega
    · rintro (⟨-, h1, h2, h3, h4, h5, h6⟩ | ⟨e, -⟩ | ⟨e, -⟩ | ⟨e, -⟩)
      · exact ⟨.inl ⟨k1, by omega, h5, h6⟩, h1, ⟨all_nil h2, all_nil h3, all_nil h4⟩, keys_nil h3⟩
      all_goals omega
  rw [if_neg k1]
  by_cases k2 : c.kind = 2
  · rw [if_pos k2]
    constructor
    · rintro ⟨⟨e, -⟩ | ⟨-, b1, b2, b3, b4⟩ | ⟨e, -⟩ | ⟨e, -⟩, hl, ⟨hf, -⟩, -⟩
      · omega
      · exact .inr (.inl ⟨k2, b1, hl, hf, by omega, by omega, b3, b4⟩)
      all_goals omega
    · rintro (⟨e, -⟩ | ⟨-, h1, h2, h3, h4, h5, h6, h7⟩ | ⟨e, -⟩ | ⟨e, -⟩)
      · omega
      · exact ⟨.inr (.inl ⟨k2, h1, by omega, h6, h7⟩), h2, ⟨h3, all_nil h4, all_nil h5⟩, keys_nil h4⟩
      all_goals omega
  rw [if_neg k2]
  by_cases k3 : c.kind = 3
  · rw [if_pos k3]
    constructor
    · rintro ⟨⟨e, -⟩ | ⟨e, -⟩ | ⟨-, b1, b2, b3⟩ | ⟨e, -⟩, ⟨l1, l2, l3, l4⟩, ⟨-, hf, hv⟩, hk⟩
      · omega
      · omega
      · exact .inr (.inr (.inl ⟨k3, b1, b2, b3, l1, l2, l3, l4, hf, hv, (keys_iff fun o ho => (hf o ho).1).1 hk⟩))
      · omega
    · rintro (⟨e, -⟩ | ⟨e, -⟩ | ⟨-, h1, h2, h3, h4, h5, h6, h7, h8, h9, h10⟩ | ⟨e, -⟩)
      · omega
      · omega
      · exact ⟨.inr (.inr (.inl ⟨k3, h1, h2, h3⟩)), ⟨h4, h5, h6, h7⟩, ⟨all_nil h2, h8, h9⟩, (keys_iff fun o ho => (h8 o ho).1).2 h10⟩
      · omega
  rw [if_neg k3]
  constructor
  · rintro ⟨⟨e, -⟩ | ⟨e, -⟩ | ⟨e, -⟩ | ⟨k4, b1⟩, ⟨l1, l2, l3, l4⟩, -⟩
    · omega
    · omega
    · omega
    · exact .inr (.inr (.inr ⟨k4, l1, by omega, by omega, by omega, l2, l3, l4⟩))
  · rintro (⟨e, -⟩ | ⟨e, -⟩ | ⟨e, -⟩ | ⟨k4, h1, h2, h3, h4, h5, h6, h7⟩)
    · omega
    · omega
    · omega
    · exact ⟨.inr (.inr (.inr ⟨k4, by omega⟩)), ⟨h1, h5, h6, h7⟩, ⟨all_nil h2, all_nil h3, all_nil h4⟩, keys_nil h3⟩
/-- A valid heap. -/
def validH (h : List Cl) : Prop := (∀ c ∈ h, cellR h c) ∧ totFrom 0 h ≤ 20000
theorem chk_cases (h : List Cl) : (validH h ∧ chkE h = 0) ∨ (¬ validH h ∧ chkE h = 210) := by
  unfold validH chkE
  by_cases ht : totFrom 0 h > 20000
  · rw [if_pos ht]; exact .inr ⟨fun hp => by omega, rfl⟩
  · rw [if_neg ht]
    by_cases hc : ∀ c ∈ h, cellR h c
    · rw [if_pos (show ∀ c ∈ h, bareP c ∧ limP c ∧ keyedP h c from fun c hh => (cell_iff h c).2 (hc c hh))]; exact .inl ⟨⟨hc, by omega⟩, rfl⟩
    · rw [if_neg (show ¬ ∀ c ∈ h, bareP c ∧ limP c ∧ keyedP h c from fun hp => hc fun c hh => (cell_iff h c).1 (hp c hh))]; exact .inr ⟨fun hp => hc hp.1, rfl⟩
theorem tot_app (c : Cl) : ∀ (l : List Cl) (n : Int), totFrom n (l ++ [c]) = IntKind.i64.wrap (totFrom n l + c.size)
  | [], _ => rfl
  | _ :: l, _ => tot_app c l _
theorem tot_set {c c' : Cl} (hs : c'.size = c.size) : ∀ (l : List Cl) (j : Nat) (n : Int), l[j]? = some c → totFrom n (l.set j c') = totFrom n l
  | [], j, n, h => by simp at h
  | x :: l, 0, n, h => by
    simp only [List.getElem?_cons_zero, Option.some.injEq] at h
    subst h
    simp only [List.set_cons_zero, totFrom, hs]
  | x :: l, j + 1, n, h => by
    simp only [List.getElem?_cons_succ] at h
    simp only [List.set_cons_succ, totFrom]
    exact tot_set hs l j _ h
/-- More cells: what fitted fits. -/
theorem fits_app {h more : List Cl} {o : Ob} (hf : fits h o) : fits (h ++ more) o := by
  refine ⟨hf.1, fun hk => ?_⟩
  obtain ⟨c, hc, h1⟩ := hf.2 hk
  exact ⟨c, by rw [List.getElem?_append_left (List.getElem?_eq_some_iff.1 hc).1]; exact hc, h1⟩
theorem cellR_mono {h h' : List Cl} (hm : ∀ o, fits h o → fits h' o) {c : Cl} (hc : cellR h c) : cellR h' c := by
  unfold cellR at *
  rcases hc with h1 | ⟨k, a, b, f, r⟩ | ⟨k, a, b, c1, c2, c3, c4, c5, f, g, r⟩ | h1
  · exact .inl h1
  · exact .inr (.inl ⟨k, a, b, fun o ho => hm o (f o ho), r⟩)
  · exact .inr (.inr (.inl ⟨k, a, b, c1, c2, c3, c4, c5, fun o ho => hm o (f o ho), fun o ho => hm o (g o ho), r⟩))
  · exact .inr (.inr (.inr h1))
/-- Another cell of the same kind and length: what fitted fits. -/
theorem fits_set {h : List Cl} {j : Nat} {c c' : Cl} (hc : h[j]? = some c) (hk : c'.kind = c.kind) (hl : c'.kind = 3 ∨ c'.kind = 4 ∨ c'.length = c.length) {o : Ob} (hf : fits h o) : fits (h.set j c') o := by
  refine ⟨hf.1, fun hx => ?_⟩
  obtain ⟨d, hd, h1, h2⟩ := hf.2 hx
  by_cases e : o.ref.toNat = j
  · subst e
    rw [hd] at hc
    cases hc
    refine ⟨c', by rw [List.getElem?_set_self (List.getElem?_eq_some_iff.1 hd).1], by rw [hk]; exact h1, fun h9 => ?_⟩
    have : c'.length = c.length := by
      rcases hl with hl | hl | hl
      · exfalso
        rw [hk, h1] at hl
        rcases cellK_cases o.kind with q | q | q | q | q <;> omega
      · exfalso
        rw [hk, h1] at hl
        rcases cellK_cases o.kind with q | q | q | q | q <;> omega
      · exact hl
    rw [this]
    exact h2 h9
  · exact ⟨d, by rw [List.getElem?_set_ne (fun h => e h.symm)]; exact hd, h1, h2⟩
theorem valid_set {h : List Cl} {j : Nat} {c c' : Cl} (hv : validH h) (hc : h[j]? = some c) (hk : c'.kind = c.kind) (hl : c'.kind = 3 ∨ c'.kind = 4 ∨ c'.length = c.length) (hs : c'.size = c.size) (hr : cellR h c') : validH (h.set j c') := by
  refine ⟨fun d hd => ?_, by rw [tot_set hs h j 0 hc]; exact hv.2⟩
  rcases List.mem_or_eq_of_mem_set hd with hd | rfl
  · exact cellR_mono (fun o ho => fits_set hc hk hl ho) (hv.1 d hd)
  · exact cellR_mono (fun o ho => fits_set hc hk hl ho) hr
end Go.Ab.Td

/- Valid heaps: Right, New. Under: nothing. -/
namespace Go.Ab.Td
open Go Go.Ab
variable {P : Program}
set_option linter.unusedSimpArgs false
attribute [local irreducible] compat
set_option maxHeartbeats 1000000 in
set_option maxRecDepth 100000 in
theorem ok_heap_New (C : Laid P) (h : List Cl) (c : Cl) (hl : h.length ≤ 1000000) (ht : ¬ IntKind.i64.wrap (totFrom 0 h + c.size) > 20000) : OkC P G n_heap_New [.sl 7 (List.map encC h), aC c] [] (.tup [.sl 7 (List.map encC (h ++ [c])), pI h.length, pI 0]) := by
  refine ok_fn C (k_heap_New C) rfl ?_
  repeat' (conv => whnf
           first
             | (with_reducible refine sC (by kernel_rfl) ?_)
             | ((first | with_reducible refine sB ?_ | with_reducible refine sG0 ?_ | with_reducible refine sG1 ?_ | refine sP (by rfl) ?_); first | refine oT ?_ | refine oF ?_ | (refine Or.inr (Or.inr ⟨fun hsp => ?_, fun hsp => ?_⟩) <;> (try simp only [eqO, Ob.eta, Cl.eta, tt_true, tt_false, decide_eq_true_eq, decide_eq_false_iff_not, beq_iff_eq, beq_eq_false_iff_ne, bne_iff_ne, ne_eq, Bool.not_eq_true, Bool.not_eq_false, Bool.not_eq_eq_eq_not, Bool.not_true, Bool.not_false, Decidable.not_not, Int.not_lt, Int.not_le, gt_iff_lt, ge_iff_le, bne_eq_false_iff_eq, List.length_map] at hsp) <;> try subst hsp))
             | refine ⟨_, _, ok_heap_Total C h (by omega), ?_⟩
             | refine ⟨_, _, ok_heap_Size_f C c.kind c.bytes c.items c.keys c.vals c.max c.at', ?_⟩
             | refine sS (append_fM  (by rfl) (by first | exact prows_pv | exact prows_fsl | exact prows_own (by rfl) (by rfl)) (by rfl) (by (try simp only [List.length_map, List.length_append, List.length_take, List.length_drop, List.length_cons, List.length_nil, List.length_replicate, List.length_set, Int.toNat_natCast]); omega)) ?_
             | refine sS (append_fM (f := encO) (x' := [⟨_, _, _, _, _, _, _⟩]) (by rfl) (by first | exact prows_pv | exact prows_fsl | exact prows_own (by rfl) (by rfl)) (by rfl) (by (try simp only [List.length_map, List.length_append, List.length_take, List.length_drop, List.length_cons, List.length_nil, List.length_replicate, List.length_set, Int.toNat_natCast]); omega)) ?_
             | refine sS (append_fM (f := encC) (x' := [⟨_, _, _, _, _, _, _⟩]) (by rfl) (by first | exact prows_pv | exact prows_fsl | exact prows_own (by rfl) (by rfl)) (by rfl) (by (try simp only [List.length_map, List.length_append, List.length_take, List.length_drop, List.length_cons, List.length_nil, List.length_replicate, List.length_set, Int.toNat_natCast]); omega)) ?_
             | refine sS (append_oM  (by rfl) (by rfl) (by (try simp only [List.length_map, List.length_append, List.length_take, List.length_drop, List.length_cons, List.length_nil, List.length_replicate, List.length_set, Int.toNat_natCast]); omega) (by first | exact prows_pv | exact prows_fsl | exact prows_own (by rfl) (by rfl)) (by rfl) (by (try simp only [List.length_map, List.length_append, List.length_take, List.length_drop, List.length_cons, List.length_nil, List.length_replicate, List.length_set, Int.toNat_natCast]); omega)) ?_
             | refine sS (append_oM (f := encO) (x' := [⟨_, _, _, _, _, _, _⟩]) (by rfl) (by rfl) (by (try simp only [List.length_map, List.length_append, List.length_take, List.length_drop, List.length_cons, List.length_nil, List.length_replicate, List.length_set, Int.toNat_natCast]); omega) (by first | exact prows_pv | exact prows_fsl | exact prows_own (by rfl) (by rfl)) (by rfl) (by (try simp only [List.length_map, List.length_append, List.length_take, List.length_drop, List.length_cons, List.length_nil, List.length_replicate, List.length_set, Int.toNat_natCast]); omega)) ?_
             | refine sS (append_oM (f := encC) (x' := [⟨_, _, _, _, _, _, _⟩]) (by rfl) (by rfl) (by (try simp only [List.length_map, List.length_append, List.length_take, List.length_drop, List.length_cons, List.length_nil, List.length_replicate, List.length_set, Int.toNat_natCast]); omega) (by first | exact prows_pv | exact prows_fsl | exact prows_own (by rfl) (by rfl)) (by rfl) (by (try simp only [List.length_map, List.length_append, List.length_take, List.length_drop, List.length_cons, List.length_nil, List.length_replicate, List.length_set, Int.toNat_natCast]); omega)) ?_
             | refine sS (append_eM  (by rfl) (by first | exact prows_pv | exact prows_fsl | exact prows_own (by rfl) (by rfl)) (by rfl) (by (try simp only [List.length_map, List.length_append, List.length_take, List.length_drop, List.length_cons, List.length_nil, List.length_replicate, List.length_set, Int.toNat_natCast]); omega)) ?_
             | refine sS (append_eM (f := encO) (x' := [⟨_, _, _, _, _, _, _⟩]) (by rfl) (by first | exact prows_pv | exact prows_fsl | exact prows_own (by rfl) (by rfl)) (by rfl) (by (try simp only [List.length_map, List.length_append, List.length_take, List.length_drop, List.length_cons, List.length_nil, List.length_replicate, List.length_set, Int.toNat_natCast]); omega)) ?_
             | refine sS (append_eM (f := encC) (x' := [⟨_, _, _, _, _, _, _⟩]) (by rfl) (by first | exact prows_pv | exact prows_fsl | exact prows_own (by rfl) (by rfl)) (by rfl) (by (try simp only [List.length_map, List.length_append, List.length_take, List.length_drop, List.length_cons, List.length_nil, List.length_replicate, List.length_set, Int.toNat_natCast]); omega)) ?_
             | refine sS (slice_mM (by rfl) (by rfl) (by rfl) (by rfl) (by (try simp only [List.length_map, List.length_append, List.length_take, List.length_drop, List.length_cons, List.length_nil, List.length_replicate, List.length_set, Int.toNat_natCast]); omega) (by (try simp only [List.length_map, List.length_append, List.length_take, List.length_drop, List.length_cons, List.length_nil, List.length_replicate, List.length_set, Int.toNat_natCast]); omega) (by first | rfl | ((try simp only [List.length_map, List.length_append, List.length_take, List.length_drop, List.length_cons, List.length_nil, List.length_replicate, List.length_set, Int.toNat_natCast]); omega)) (by (try simp only [List.length_map, List.length_append, List.length_take, List.length_drop, List.length_cons, List.length_nil, List.length_replicate, List.length_set, Int.toNat_natCast]); omega)) ?_
             | refine sS (slice_M (by rfl) (by rfl) (by rfl) (by (try simp only [List.length_map, List.length_append, List.length_take, List.length_drop, List.length_cons, List.length_nil, List.length_replicate, List.length_set, Int.toNat_natCast]); omega) (by (try simp only [List.length_map, List.length_append, List.length_take, List.length_drop, List.length_cons, List.length_nil, List.length_replicate, List.length_set, Int.toNat_natCast]); omega) (by (try simp only [List.length_map, List.length_append, List.length_take, List.length_drop, List.length_cons, List.length_nil, List.length_replicate, List.length_set, Int.toNat_natCast]); omega)) ?_
             | refine sS (slice_fM (by rfl) (by rfl) (by rfl) (by (try simp only [List.length_map, List.length_append, List.length_take, List.length_drop, List.length_cons, List.length_nil, List.length_replicate, List.length_set, Int.toNat_natCast]); omega) (by (try simp only [List.length_map, List.length_append, List.length_take, List.length_drop, List.length_cons, List.length_nil, List.length_replicate, List.length_set, Int.toNat_natCast]); omega) (by (try simp only [List.length_map, List.length_append, List.length_take, List.length_drop, List.length_cons, List.length_nil, List.length_replicate, List.length_set, Int.toNat_natCast]); omega)) ?_
             | refine sS (sslice_lh (by rfl) (by rfl) (by rfl) (by (try simp only [List.length_map, List.length_append, List.length_take, List.length_drop, List.length_cons, List.length_nil, List.length_replicate, List.length_set, Int.toNat_natCast]); omega) (by (try simp only [List.length_map, List.length_append, List.length_take, List.length_drop, List.length_cons, List.length_nil, List.length_replicate, List.length_set, Int.toNat_natCast]); omega) (by (try simp only [List.length_map, List.length_append, List.length_take, List.length_drop, List.length_cons, List.length_nil, List.length_replicate, List.length_set, Int.toNat_natCast]); omega)) ?_
             | refine sS (iaddr_at (by rfl) (by rfl) (by omega) (row_at (d := cl0) (by omega) (by omega))) ?_
             | refine sS (iaddr_at (by rfl) (by rfl) (by omega) (row_at (d := ob0) (by omega) (by omega))) ?_
             | refine sS (rem_at (by rfl) (by rfl) (by omega)) ?_
             | refine sS (quo_at (by rfl) (by rfl) (by omega)) ?_
             | fail)
  all_goals (conv => whnf)
  all_goals (first | exact PV.le.refl _ | (exfalso; omega) | (refine le_tup (.cons (le_of_eq ?_) (.cons (le_of_eq ?_) (.refl _))) <;> simp))
end Go.Ab.Td
