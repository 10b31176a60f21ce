/- Heaps in which resources are defined one by one. Under: nothing. -/
import Derived.Test.YtblkalcialfiaaaDoorTdFo
import Derived.Test.YtblkalcialfiaaaDoorTdAk
import Derived.Test.YtblkalcialfiaaaDoorTdSu
import Derived.Test.YtblkalcialfiaaaDoorTdRK
namespace Go.Ab.Td
open Go Go.Ab
structure HI (n : Nat) (h : List Cl) : Prop where
  len : 10 ≤ h.length ∧ h.length ≤ 20
  cat : h[4]? = some catT
  dics : ∀ j : Nat, 5 ≤ j → j ≤ 9 → ∃ c, h[j]? = some c ∧ c.kind = 3
  sz : ∀ c ∈ h, c.keys.length ≤ n ∧ c.vals.length ≤ n ∧ c.items.length ≤ 1000 ∧ c.bytes.length ≤ 4000
  shape : ∀ c ∈ h, (c.kind = 1 → c.items = [] ∧ c.bytes.length ≤ 1000) ∧ (c.kind = 2 → c.bytes = [] ∧ c.items.length ≤ 1000)
  vals : ∀ c ∈ h, ∀ o ∈ c.vals, o.n < 9223372036854775808
theorem HI.small {n : Nat} {h : List Cl} (t : HI n h) (hn : n ≤ 1000000) : small h :=
  ⟨by have := t.len; omega, fun c hc => by obtain ⟨a, b, c, d⟩ := t.sz c hc; exact ⟨by omega, by omega, by omega, by omega⟩⟩
theorem slR_len {l : List Ob} {m : Nat} (h : SlR (.sl 7 (l.map encO)) m) : l.length ≤ 1000 := by
  rcases h with ⟨h, -⟩ | ⟨rr, h, hl, hm, -⟩
  · cases h
  · simp only [PV.sl.injEq, true_and] at h
    subst h
    simp only [List.length_map] at hl
    omega
theorem clOk.lens {c : Cl} (h : clOk c) : c.keys.length ≤ 1000 ∧ c.vals.length ≤ 1000 ∧ c.items.length ≤ 1000 ∧ c.bytes.length ≤ 4000 := by
  obtain ⟨-, -, k, b, q1, q2, q3, mx, a, m1, m2, m3, he, hb, h1, h2, h3⟩ := h
  simp only [encC, List.cons.injEq, PV.int.injEq, PV.str.injEq, true_and] at he
  obtain ⟨-, e2, e3, e4, e5, -⟩ := he
  subst e2 e3 e4 e5
  exact ⟨slR_len h2, slR_len h3, slR_len h1, hb.1⟩
theorem HeapT.hi {h : List Cl} (t : HeapT h) : HI 1000 h := by
  have hok := t.ok
  have hl := t.len
  obtain ⟨h4, h5, h10⟩ := heap_at t
  exact ⟨⟨h10, hl⟩, h4, fun j a b => ⟨_, h5 j a b, rfl⟩, fun c hc => (hok c hc).lens, fun c hc => (hok c hc).shape, fun c hc => (hok c hc).2.1⟩
theorem fits_partH {h : List Cl} {m : Nat} (t : HI m h) {kd cl A B N : Int} (hk : (kd = 6 ∧ cl = 1) ∨ ((kd = 7 ∨ kd = 8) ∧ cl = 2) ∨ (kd = 9 ∧ cl = 3) ∨ (kd = 11 ∧ cl = 4)) (hA : 0 ≤ A ∧ A < 256) (hB : 0 ≤ B ∧ B < 256) : fits h (partO h kd cl A B N) := by
  unfold partO
  by_cases hp : pickSpec (h.map encC) cl A < 0
  · rw [if_pos hp]; exact fits_int (by omega) (by omega) false
  · rw [if_neg hp]
    obtain ⟨j, c, ej, hc, hcl, hj⟩ := pick_at hp
    have hl := t.len
    have hs := t.shape c (List.mem_of_getElem? hc)
    rw [ej]
    have hc' : h[((j : Int)).toNat]? = some c := by simpa using hc
    by_cases h3 : cl = 3 ∨ cl = 4
    · rw [if_pos h3]
      have hkd : kd = 9 ∧ cl = 3 ∨ kd = 11 ∧ cl = 4 := by omega
      refine ⟨?_, fun _ => ⟨c, hc', ?_, fun hx => ?_⟩⟩
      · rcases hkd with ⟨rfl, _⟩ | ⟨rfl, _⟩ <;> (unfold Ob.right Ob.blank; simp; omega)
      · rcases hkd with ⟨rfl, rfl⟩ | ⟨rfl, rfl⟩ <;> exact hcl
      · dsimp only at hx; omega
    · rw [if_neg h3]
      have hkd : kd = 6 ∧ cl = 1 ∨ (kd = 7 ∨ kd = 8) ∧ cl = 2 := by omega
      have hlen : (c.length : Int) = (c.bytes.length : Int) + c.items.length ∧ c.length ≤ 1000 := by
        unfold Cl.length
        rcases hkd with ⟨_, rfl⟩ | ⟨_, rfl⟩
        · obtain ⟨e1, e2⟩ := hs.1 hcl
          rw [if_pos hcl, e1]; simp; omega
        · obtain ⟨e1, e2⟩ := hs.2 hcl
          rw [if_neg (by omega), e1]; simp; omega
      have fin : ∀ (e : Bool) (o l : Int), 0 ≤ o → 0 ≤ l → o + l ≤ c.length → fits h ⟨kd, e, 0, [], (j : Int), o, l⟩ := by
        intro e o l h1 h2 h3
        refine ⟨?_, fun _ => ⟨c, hc', ?_, fun _ => h3⟩⟩
        · rcases hkd with ⟨rfl, _⟩ | ⟨rfl | rfl, _⟩ <;> (unfold Ob.right Ob.blank; simp; omega)
        · rcases hkd with ⟨rfl, rfl⟩ | ⟨rfl | rfl, rfl⟩ <;> exact hcl
      simp only [hc', Option.getD_some]
      rw [← hlen.1]
      have hn0 : 0 ≤ c.length := by omega
      split
      · have t1 := Int.tmod_nonneg (c.length + 1) hB.1
        have t2 := Int.tmod_lt_of_pos B (show 0 < c.length + 1 by omega)
        have t3 := Int.tmod_nonneg (c.length - B.tmod (c.length + 1) + 1) (Int.tdiv_nonneg hB.1 (show (0 : Int) ≤ 3 by decide))
        have t4 := Int.tmod_lt_of_pos (B.tdiv 3) (show 0 < c.length - B.tmod (c.length + 1) + 1 by omega)
        exact fin _ _ _ t1 t3 (by omega)
      · exact fin _ _ _ (by decide) hn0 (by omega)
theorem fits_objH {h : List Cl} {m : Nat} (t : HI m h) (K A B N : Int) (hA : 0 ≤ A ∧ A < 256) (hB : 0 ≤ B ∧ B < 256) (hN : -2147483648 ≤ N ∧ N ≤ 2147483647) : fits h (objO h K A B N) := by
  have r2 : 0 ≤ A.tmod 2 ∧ A.tmod 2 < 2 := ⟨Int.tmod_nonneg _ hA.1, Int.tmod_lt_of_pos _ (by decide)⟩
  have r10 : -10 < N.tmod 10 ∧ N.tmod 10 < 10 := ⟨Int.lt_tmod_of_pos _ (by decide), Int.tmod_lt_of_pos _ (by decide)⟩
  have r20 : -1048576 < N.tmod 1048576 ∧ N.tmod 1048576 < 1048576 := ⟨Int.lt_tmod_of_pos _ (by decide), Int.tmod_lt_of_pos _ (by decide)⟩
  have wl := word_len A
  unfold objO
  refine ite_fits (fun _ => fits_plain (by unfold Ob.right Ob.blank ob0; simp) rfl) fun _ => ?_
  refine ite_fits (fun _ => fits_plain (by unfold Ob.right Ob.blank; simp) rfl) fun _ => ?_
  refine ite_fits (fun _ => fits_plain (by unfold Ob.right Ob.blank; simp; omega) rfl) fun _ => ?_
  refine ite_fits (fun _ => fits_int (by omega) (by omega) false) fun _ => ?_
  refine ite_fits (fun _ => fits_int (by omega) (by omega) false) fun _ => ?_
  refine ite_fits (fun _ => fits_plain (by unfold Ob.right Ob.blank; simp; omega) rfl) fun _ => ?_
  refine ite_fits (fun _ => fits_plain (by unfold Ob.right Ob.blank; simp; omega) rfl) fun _ => ?_
  refine ite_fits (fun _ => fits_plain (by unfold Ob.right Ob.blank; simp; omega) rfl) fun _ => ?_
  refine ite_fits (fun _ => fits_partH t (by omega) hA hB) fun _ => ?_
  refine ite_fits (fun _ => fits_partH t (by omega) hA hB) fun _ => ?_
  refine ite_fits (fun _ => fits_partH t (by omega) hA hB) fun _ => ?_
  refine ite_fits (fun _ => fits_partH t (by omega) hA hB) fun _ => ?_
  refine ite_fits (fun _ => fits_plain (by unfold Ob.right Ob.blank; simp) rfl) fun _ => ?_
  exact fits_partH t (by omega) hA hB
/-- The key of a key is the key itself. -/
theorem key_key {h : List Cl} {o : Ob} (hn : o.n < 9223372036854775808) (hf : fits h o) (hk : (hKey h o).2 = 0) : fits h (hKey h o).1 ∧ hKey h (hKey h o).1 = ((hKey h o).1, 0) ∧ (hKey h o).1.kind ≠ 0 ∧ (hKey h o).1.n < 9223372036854775808 := by
  have nm : ∀ s : List UInt8, s.length ≤ 100 → fits h (nmO s) ∧ hKey h (nmO s) = (nmO s, 0) ∧ (nmO s).kind ≠ 0 ∧ (nmO s).n < 9223372036854775808 := fun s hs => ⟨⟨(right_nm s false).2 hs, fun hx => absurd rfl hx⟩, key_nm hs, by simp [nmO], by simp [nmO]⟩
  have pl : ∀ a : Ob, fits h a → a.kind ≠ 6 → a.kind ≠ 0 → hKey h a = (a.key, 0) := by
    intro a ha h6 h0
    unfold hKey
    rw [if_neg (Classical.not_not.2 ha), if_neg h6, if_neg h0]
  by_cases h6 : o.kind = 6
  · unfold hKey at hk ⊢
    rw [if_neg (Classical.not_not.2 hf), if_pos h6] at *
    by_cases hl : 100 < (sub h o).length
    · rw [if_pos hl] at hk; cases hk
    · rw [if_neg hl]
      have := nm (sub h o) (by omega)
      unfold hKey at this
      exact this
  · have h0 : o.kind ≠ 0 := by
      intro h0
      unfold hKey at hk
      rw [if_neg (Classical.not_not.2 hf), if_neg h6, if_pos h0] at hk
      cases hk
    rw [pl o hf h6 h0]
    dsimp only
    by_cases hr : o.kind = 4 ∧ o.n.tmod 65536 = 0
    · have e : o.key = ⟨3, false, o.n.tdiv 65536, [], 0, 0, 0⟩ := by unfold Ob.key; rw [if_pos hr]
      obtain ⟨-, la, ua⟩ := right_numO hf.1 (.inr hr.1)
      have hb := tdiv_bound la ua
      have := tdm hr.2
      have ff : fits h ⟨3, false, o.n.tdiv 65536, [], 0, 0, 0⟩ := fits_int (by omega) (by omega) false
      rw [e]
      refine ⟨ff, ?_, by simp, by dsimp only; omega⟩
      rw [pl _ ff (by simp) (by simp)]
      simp [Ob.key]
    · have e : o.key = { o with exec := false } := by unfold Ob.key; rw [if_neg hr]
      have ff : fits h { o with exec := false } := hf
      rw [e]
      refine ⟨ff, ?_, h0, ?_⟩
      · rw [pl _ ff h6 h0]
        unfold Ob.key
        dsimp only
        rw [if_neg hr]
      · exact hn
theorem put_facts {c c' : Cl} {k v : Ob} (hp : putKV c k v = some c') : c'.kind = c.kind ∧ c'.bytes = c.bytes ∧ c'.items = c.items ∧ c'.keys.length ≤ c.keys.length + 1 ∧ c'.vals.length ≤ c.vals.length + 1 ∧ ∀ o ∈ c'.vals, o ∈ c.vals ∨ o = v := by
  unfold putKV at hp
  split at hp
  · cases hp
    refine ⟨rfl, rfl, rfl, by dsimp only; omega, by dsimp only; rw [List.length_set]; omega, fun o ho => ?_⟩
    exact List.mem_or_eq_of_mem_set ho
  · split at hp
    · cases hp
    · cases hp
      refine ⟨rfl, rfl, rfl, by dsimp only; rw [List.length_append]; simp, by dsimp only; rw [List.length_append]; simp, fun o ho => ?_⟩
      dsimp only at ho
      rcases List.mem_append.1 ho with h | h
      · exact .inl h
      · exact .inr (by simpa using h)
theorem HI.put {n : Nat} {h : List Cl} (t : HI n h) {j : Nat} (h5 : 5 ≤ j) (h9 : j ≤ 9) {c c' : Cl} (hc : h[j]? = some c) {k v : Ob} (hp : putKV c k v = some c') (hv : v.n < 9223372036854775808) : HI (n + 1) (h.set j c') := by
  obtain ⟨p1, p2, p3, p4, p5, p6⟩ := put_facts hp
  have hm := List.mem_of_getElem? hc
  have hck : c.kind = 3 := by
    obtain ⟨d, hd, hk⟩ := t.dics j h5 h9
    rw [hc] at hd; cases hd; exact hk
  have mem : ∀ x ∈ h.set j c', x ∈ h ∨ x = c' := fun x hx => List.mem_or_eq_of_mem_set hx
  refine ⟨by rw [List.length_set]; exact t.len, ?_, fun i a b => ?_, fun x hx => ?_, fun x hx => ?_, fun x hx => ?_⟩
  · rw [List.getElem?_set_ne (by omega)]; exact t.cat
  · by_cases hij : j = i
    · subst hij
      rw [List.getElem?_set_self (by have := (List.getElem?_eq_some_iff.1 hc).1; exact this)]
      exact ⟨c', rfl, by rw [p1]; exact hck⟩
    · rw [List.getElem?_set_ne hij]; exact t.dics i a b
  · rcases mem x hx with hx | rfl
    · obtain ⟨a, b, c, d⟩ := t.sz x hx; exact ⟨by omega, by omega, c, d⟩
    · obtain ⟨a, b, cc, d⟩ := t.sz c hm
      exact ⟨by omega, by omega, by rw [p3]; exact cc, by rw [p2]; exact d⟩
  · rcases mem x hx with hx | rfl
    · exact t.shape x hx
    · exact ⟨fun hk => by omega, fun hk => by omega⟩
  · rcases mem x hx with hx | rfl
    · exact t.vals x hx
    · intro o ho
      rcases p6 o ho with h | rfl
      · exact t.vals c hm o h
      · exact hv
theorem look_mem {c : Cl} {k v : Ob} (h : look c k = some v) : v ∈ c.vals := by
  unfold look at h
  split at h
  · cases h
  · exact List.mem_of_getElem? h
theorem HI.catAt {n : Nat} {h : List Cl} (t : HI n h) : vErr h catD [9] = 0 ∧ cellAt h catD = catT := vErr_dict (j := 4) (by decide) (by decide) t.cat rfl
theorem HI.rdic_j {n : Nat} {h : List Cl} (t : HI n h) {c : Ob} (hr : rdic h c) : ∃ j : Nat, 5 ≤ j ∧ j ≤ 9 ∧ (look (cellAt h catD) c).getD ob0 = dO j := by
  obtain ⟨h1, -⟩ := hr
  rw [t.catAt.2] at *
  cases hl : look catT c with
  | none => rw [hl] at h1; cases h1
  | some v =>
    have hm := look_mem hl
    simp only [catT, dct, List.mem_cons, List.not_mem_nil, or_false] at hm
    rcases hm with rfl | rfl | rfl | rfl | rfl
    · exact ⟨5, by decide, by decide, rfl⟩
    · exact ⟨6, by decide, by decide, rfl⟩
    · exact ⟨7, by decide, by decide, rfl⟩
    · exact ⟨8, by decide, by decide, rfl⟩
    · exact ⟨9, by decide, by decide, rfl⟩
theorem HI.dicAt {n : Nat} {h : List Cl} (t : HI n h) {j : Nat} (h5 : 5 ≤ j) (h9 : j ≤ 9) : vErr h (dO j) [9] = 0 ∧ ∃ c, h[j]? = some c ∧ cellAt h (dO j) = c := by
  obtain ⟨c, hc, hk⟩ := t.dics j h5 h9
  have := vErr_dict (h := h) (j := (j : Int)) (by omega) (by omega) (by simpa using hc) hk
  exact ⟨this.1, c, hc, this.2⟩
theorem HI.dic_eq {n : Nat} {h : List Cl} (t : HI n h) (c : Ob) : (dicE h c = 0 ↔ rdic h c) ∧ (¬ rdic h c → dicE h c = 24) := by
  unfold dicE rdic
  have := t.catAt.1
  constructor
  · constructor
    · intro h
      split at h
      · rename_i hx; exact hx.2
      · cases h
    · intro h; rw [if_pos ⟨this, h⟩]
  · intro h; rw [if_neg (fun hx => h hx.2)]
/-- Finding: the program's answer and the reference's. -/
theorem HI.find_eq {n : Nat} {h : List Cl} (t : HI n h) (cs : List UInt8) (k : Ob) :
    (if dicE h (nmO cs) = 0 then fndO h (dicO h (nmO cs)) k else ob0) = (if (tt (rdic h (nmO cs))) = true then (look (cellAt h ((look (cellAt h catD) (nmO cs)).getD ob0)) k).getD ob0 else ob0) ∧
    (if dicE h (nmO cs) = 0 then fndE h (dicO h (nmO cs)) k else dicE h (nmO cs)) = (if (tt (rdic h (nmO cs))) = true then (if (look (cellAt h ((look (cellAt h catD) (nmO cs)).getD ob0)) k).isSome = true then 0 else 40) else 24) := by
  obtain ⟨e1, e2⟩ := t.dic_eq (nmO cs)
  by_cases hr : rdic h (nmO cs)
  · obtain ⟨j, h5, h9, hj⟩ := t.rdic_j hr
    obtain ⟨v1, -⟩ := t.dicAt h5 h9
    have d0 := e1.2 hr
    have dO' : dicO h (nmO cs) = dO j := by unfold dicO; rw [if_pos d0, hj]
    rw [if_pos d0, if_pos d0, if_pos (tt_true.mpr hr), if_pos (tt_true.mpr hr), dO', hj]
    unfold fndO fndE
    rw [if_neg (by rw [v1]; simp), if_neg (by rw [v1]; simp)]
    exact ⟨rfl, rfl⟩
  · have d0 := e2 hr
    have q1 : ¬ dicE h (nmO cs) = 0 := by rw [d0]; decide
    have q2 : ¬ tt (rdic h (nmO cs)) = true := by rw [tt_true]; exact hr
    rw [if_neg q1, if_neg q1, if_neg q2, if_neg q2, d0]
    exact ⟨rfl, rfl⟩
/-- A category's dictionary. -/
theorem HI.cat_dic {n : Nat} {h : List Cl} (t : HI n h) {cs : List UInt8} (hc : cs ∈ cats) : ∃ j : Nat, 5 ≤ j ∧ j ≤ 9 ∧ (look (cellAt h catD) (nmO cs)).getD ob0 = dO j ∧ rdic h (nmO cs) ∧ cs.length ≤ 100 := by
  obtain ⟨j, h5, h9, hl, hn⟩ := cat_cases hc
  refine ⟨j.toNat, by omega, by omega, ?_, ?_, hn⟩
  · rw [t.catAt.2, hl, Int.toNat_of_nonneg (by omega)]; rfl
  · unfold rdic; rw [t.catAt.2, hl]; exact ⟨rfl, rfl⟩
end Go.Ab.Td
