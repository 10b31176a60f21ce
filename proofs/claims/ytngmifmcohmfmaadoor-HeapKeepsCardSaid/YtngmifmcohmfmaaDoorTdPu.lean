/- Putting. Under: nothing. -/
import Derived.Test.YtngmifmcohmfmaaDoorTdLr
import Derived.Test.YtngmifmcohmfmaaDoorAbG6
namespace Go.Ab.Td
open Go Go.Ab
variable {P : Program}
set_option linter.unusedSimpArgs false
attribute [local irreducible] compat
abbrev bRow (b : UInt8) : List PV := [.int .u8 b.toNat]
theorem bytes_rows (s : List UInt8) : bytesOfRows (s.map bRow) = some s := by
  induction s with
  | nil => rfl
  | cons b s ih =>
    simp only [List.map_cons, bytesOfRows, ih, Int.toNat_natCast, UInt8.ofNat_toNat]


set_option maxHeartbeats 1000000 in
set_option maxRecDepth 100000 in
theorem ok_heap_replaced_byte (C : Laid P) (l x : List UInt8) (i : Int) (h0 : 0 ≤ i) (h1 : i + x.length ≤ l.length) (hl : l.length ≤ 1000000) : OkC P G n_heap_replaced_byte [.sl 1 (l.map bRow), pI i, .sl 1 (x.map bRow)] [] (.sl 1 ((repl l i.toNat x).map bRow)) := by
  refine ok_fn C (k_heap_replaced_byte C) rfl ?_
  repeat' (conv => whnf
           first
             | (with_reducible refine sC (by kernel_rfl) ?_)
             | ((first | with_reducible refine sB ?_ | with_reducible refine sG0 ?_ | with_reducible refine sG1 ?_ | refine sP (by rfl) ?_); first | refine Or.inl ⟨by first | assumption | (simp only [eqO, Ob.eta, Cl.eta, tt_true, tt_false, decide_eq_true_eq, decide_eq_false_iff_not, beq_iff_eq, beq_eq_false_iff_ne, bne_iff_ne, ne_eq, Bool.not_eq_true, Bool.not_eq_false, Bool.not_eq_eq_eq_not, Bool.not_true, Bool.not_false, Decidable.not_not, Int.not_lt, Int.not_le, gt_iff_lt, ge_iff_le, bne_eq_false_iff_eq]; first | done | assumption | omega), ?_⟩ | refine Or.inr (Or.inl ⟨by first | assumption | (simp only [eqO, Ob.eta, Cl.eta, tt_true, tt_false, decide_eq_true_eq, decide_eq_false_iff_not, beq_iff_eq, beq_eq_false_iff_ne, bne_iff_ne, ne_eq, Bool.not_eq_true, Bool.not_eq_false, Bool.not_eq_eq_eq_not, Bool.not_true, Bool.not_false, Decidable.not_not, Int.not_lt, Int.not_le, gt_iff_lt, ge_iff_le, bne_eq_false_iff_eq]; first | done | assumption | omega), ?_⟩) | (refine Or.inr (Or.inr ⟨fun hsp => ?_, fun hsp => ?_⟩) <;> (try simp only [eqO, Ob.eta, Cl.eta, tt_true, tt_false, decide_eq_true_eq, decide_eq_false_iff_not, beq_iff_eq, beq_eq_false_iff_ne, bne_iff_ne, ne_eq, Bool.not_eq_true, Bool.not_eq_false, Bool.not_eq_eq_eq_not, Bool.not_true, Bool.not_false, Decidable.not_not, Int.not_lt, Int.not_le, gt_iff_lt, ge_iff_le, bne_eq_false_iff_eq] at hsp) <;> try subst hsp))
             | refine sS (mksl_at (by rfl) (by omega) (by simp only [List.length_map]; omega) (by rfl) (by decide)) ?_
             | refine sS (copy_M (by rfl) (by rfl) prows_pv (by simp) (by simp)) ?_
             | refine sS (slice_oM (by rfl) (by rfl) (by rfl) (by omega) (by simp only [List.length_map]; omega) (by simp [SObj.len]) (by rfl)) ?_
             | refine sS (copy_P (by rfl) (by rfl) prows_pv (by simp only [List.length_map]; omega) (by simp only [List.length_map]; omega)) ?_
             | fail)
  all_goals (conv => whnf)
  all_goals (refine le_sle ?_; simp [repl]; first | done | omega | (rw [List.take_of_length_le]; simp; omega))
theorem b2s_at {σ : Store} {nm : Nat} {ev : RA → AV} {x : RA} {s : List UInt8} (hx : ev x = .pv (.sl 1 (s.map bRow))) : step σ nm ev (.b2s x) = some { v := .pv (.str s) } := by
  simp [step, hx, prowsOf, AV.e, bytes_rows]
theorem pub_b {l : List UInt8} {n : Nat} (h : l.length = n) : List.take n (List.drop 0 (List.map bRow l)) = List.map bRow l := pub_all h
open Classical in
/-- Whether n elements from an index on are within an object. -/
noncomputable def roomE (o : Ob) (at' n : Int) : Int := if at' < 0 ∨ at' > o.len ∨ n > IntKind.i64.wrap (o.len - at') then 23 else 0
theorem room_ok {o : Ob} {at' n : Int} (h : roomE o at' n = 0) (h0 : 0 ≤ o.len) (h1 : o.len ≤ 1000) : 0 ≤ at' ∧ at' + n ≤ o.len ∧ at' ≤ o.len := by
  unfold roomE at h
  split at h
  · cases h
  · have : IntKind.i64.wrap (o.len - at') = o.len - at' := wrap_small (by omega) (by omega)
    omega
theorem room_bad {o : Ob} {at' n : Int} (h : roomE o at' n ≠ 0) : roomE o at' n = 23 := by
  unfold roomE at *
  split
  · rfl
  · rename_i hx; rw [if_neg hx] at h; exact absurd rfl h
/-- A heap with other octets in a string. -/
def putBh (h : List Cl) (o : Ob) (at' : Int) (s : List UInt8) : List Cl := h.set o.ref.toNat { cellAt h o with bytes := repl (cellAt h o).bytes (o.off + at').toNat s }
def putIh (h : List Cl) (o : Ob) (at' : Int) (l : List Ob) : List Cl := h.set o.ref.toNat { cellAt h o with items := repl (cellAt h o).items (o.off + at').toNat l }
theorem vfacts6 {h : List Cl} {o : Ob} (hv : vErr h o [6] = 0) : (0 ≤ o.ref ∧ o.ref < h.length) ∧ (0 ≤ o.off ∧ 0 ≤ o.len ∧ o.off + o.len ≤ 1000) ∧ o.off + o.len ≤ (cellAt h o).bytes.length := by
  obtain ⟨⟨hr1, hr2⟩, ⟨hf1, hf2, hf3⟩, hk, hc⟩ := view_facts hv
  have hk6 : o.kind = 6 := by simpa using hk
  obtain ⟨hc3, hc4, hc5⟩ := hc.resolve_left (by rw [hk6]; decide)
  exact ⟨⟨hr1, by omega⟩, ⟨hf1, hf2, hf3⟩, by simpa [hk6, Cl.length, hc4, cellK] using hc5⟩


set_option maxHeartbeats 1000000 in
set_option maxRecDepth 100000 in
theorem ok_heap_view_room (C : Laid P) (h : List Cl) (o : Ob) (at1 n : Int) : OkC P G n_heap_view_room [.agg (.sl 7 (List.map encC h) :: encO o), pI at1, pI n] [] (pI (roomE o at1 n)) := by
  refine ok_fn C (k_heap_view_room C) rfl ?_
  repeat' (conv => whnf
           first
             | (with_reducible refine sC (by kernel_rfl) ?_)
             | ((first | with_reducible refine sB ?_ | with_reducible refine sG0 ?_ | with_reducible refine sG1 ?_ | refine sP (by rfl) ?_); first | refine Or.inl ⟨by first | assumption | (simp only [eqO, Ob.eta, Cl.eta, tt_true, tt_false, decide_eq_true_eq, decide_eq_false_iff_not, beq_iff_eq, beq_eq_false_iff_ne, bne_iff_ne, ne_eq, Bool.not_eq_true, Bool.not_eq_false, Bool.not_eq_eq_eq_not, Bool.not_true, Bool.not_false, Decidable.not_not, Int.not_lt, Int.not_le, gt_iff_lt, ge_iff_le, bne_eq_false_iff_eq]; first | done | assumption | omega), ?_⟩ | refine Or.inr (Or.inl ⟨by first | assumption | (simp only [eqO, Ob.eta, Cl.eta, tt_true, tt_false, decide_eq_true_eq, decide_eq_false_iff_not, beq_iff_eq, beq_eq_false_iff_ne, bne_iff_ne, ne_eq, Bool.not_eq_true, Bool.not_eq_false, Bool.not_eq_eq_eq_not, Bool.not_true, Bool.not_false, Decidable.not_not, Int.not_lt, Int.not_le, gt_iff_lt, ge_iff_le, bne_eq_false_iff_eq]; first | done | assumption | omega), ?_⟩) | (refine Or.inr (Or.inr ⟨fun hsp => ?_, fun hsp => ?_⟩) <;> (try simp only [eqO, Ob.eta, Cl.eta, tt_true, tt_false, decide_eq_true_eq, decide_eq_false_iff_not, beq_iff_eq, beq_eq_false_iff_ne, bne_iff_ne, ne_eq, Bool.not_eq_true, Bool.not_eq_false, Bool.not_eq_eq_eq_not, Bool.not_true, Bool.not_false, Decidable.not_not, Int.not_lt, Int.not_le, gt_iff_lt, ge_iff_le, bne_eq_false_iff_eq] at hsp) <;> try subst hsp))
             | fail)
  all_goals (conv => whnf)
  all_goals (refine le_int ?_; first | (unfold roomE; rw [if_pos (by omega)]) | (unfold roomE; rw [if_neg (by omega)]))
set_option maxHeartbeats 1000000 in
set_option maxRecDepth 100000 in
theorem ok_heap_PutBytes (C : Laid P) (h : List Cl) (o : Ob) (hs : small h) (ho : o.n < 9223372036854775808) (at1 : Int) (s : List UInt8) (hv : vErr h o [6] = 0) (hr : roomE o at1 s.length = 0) : OkC P G n_heap_PutBytes [.sl 7 (List.map encC h), aO o, pI at1, .str s] [] (.tup [.sl 7 (List.map encC (putBh h o at1 s)), pI 0]) := by
  refine ok_fn C (k_heap_PutBytes C) rfl ?_
  obtain ⟨⟨hr1, hr2⟩, ⟨hf1, hf2, hf3⟩, hc6⟩ := vfacts6 hv
  obtain ⟨ha1, ha2, ha3⟩ := room_ok hr (by omega) (by omega)
  have hsm := small_at hs o
  obtain ⟨hm1, hm2, hm3, hm4⟩ := hsm
  have hw : IntKind.i64.wrap (o.off + at1) = o.off + at1 := wrap_small (by omega) (by omega)
  have hh := hs.1
  repeat' (conv => whnf
           first
             | (with_reducible refine sC (by kernel_rfl) ?_)
             | ((first | with_reducible refine sB ?_ | with_reducible refine sG0 ?_ | with_reducible refine sG1 ?_ | refine sP (by rfl) ?_); first | refine Or.inl ⟨by first | assumption | (simp only [eqO, Ob.eta, Cl.eta, tt_true, tt_false, decide_eq_true_eq, decide_eq_false_iff_not, beq_iff_eq, beq_eq_false_iff_ne, bne_iff_ne, ne_eq, Bool.not_eq_true, Bool.not_eq_false, Bool.not_eq_eq_eq_not, Bool.not_true, Bool.not_false, Decidable.not_not, Int.not_lt, Int.not_le, gt_iff_lt, ge_iff_le, bne_eq_false_iff_eq]; first | done | assumption | omega), ?_⟩ | refine Or.inr (Or.inl ⟨by first | assumption | (simp only [eqO, Ob.eta, Cl.eta, tt_true, tt_false, decide_eq_true_eq, decide_eq_false_iff_not, beq_iff_eq, beq_eq_false_iff_ne, bne_iff_ne, ne_eq, Bool.not_eq_true, Bool.not_eq_false, Bool.not_eq_eq_eq_not, Bool.not_true, Bool.not_false, Decidable.not_not, Int.not_lt, Int.not_le, gt_iff_lt, ge_iff_le, bne_eq_false_iff_eq]; first | done | assumption | omega), ?_⟩) | (refine Or.inr (Or.inr ⟨fun hsp => ?_, fun hsp => ?_⟩) <;> (try simp only [eqO, Ob.eta, Cl.eta, tt_true, tt_false, decide_eq_true_eq, decide_eq_false_iff_not, beq_iff_eq, beq_eq_false_iff_ne, bne_iff_ne, ne_eq, Bool.not_eq_true, Bool.not_eq_false, Bool.not_eq_eq_eq_not, Bool.not_true, Bool.not_false, Decidable.not_not, Int.not_lt, Int.not_le, gt_iff_lt, ge_iff_le, bne_eq_false_iff_eq] at hsp) <;> try subst hsp))
             | refine ⟨_, _, ok_heap_viewOf C _ o [6] (by assumption) (by decide) (by assumption), ?_⟩
             | refine ⟨_, _, (by have k := ok_heap_view_room C h o at1 s.length; rw [hr] at k; exact k), ?_⟩
             | refine ⟨_, _, ok_heap_view_cell C h o hr1 hr2, ?_⟩
             | refine ⟨_, _, (by rw [pub_b (l := (cellAt h o).bytes) rfl, pub_b (l := s) rfl, hw]; exact ok_heap_replaced_byte C (cellAt h o).bytes s (o.off + at1) (by omega) (by omega) (by omega)), ?_⟩
             | refine ⟨_, _, ok_heap_view_with C h o { cellAt h o with bytes := repl (cellAt h o).bytes (o.off + at1).toNat s } hr1 hr2 hh, ?_⟩
             | refine sS (b2s_at (s := repl (cellAt h o).bytes (o.off + at1).toNat s) (by rfl)) ?_
             | fail)
  all_goals (conv => whnf)
  all_goals (exact PV.le.refl _)
set_option maxHeartbeats 1000000 in
set_option maxRecDepth 100000 in
theorem ok_heap_PutBytes_bad (C : Laid P) (h : List Cl) (o : Ob) (ho : o.n < 9223372036854775808) (at1 : Int) (s : List UInt8) (hv : vErr h o [6] ≠ 0) : OkC P G n_heap_PutBytes [.sl 7 (List.map encC h), aO o, pI at1, .str s] [] (.tup [.sl 7 (List.map encC []), pI (vErr h o [6])]) := by
  refine ok_fn C (k_heap_PutBytes C) rfl ?_
  repeat' (conv => whnf
           first
             | (with_reducible refine sC (by kernel_rfl) ?_)
             | ((first | with_reducible refine sB ?_ | with_reducible refine sG0 ?_ | with_reducible refine sG1 ?_ | refine sP (by rfl) ?_); first | refine Or.inl ⟨by first | assumption | (simp only [eqO, Ob.eta, Cl.eta, tt_true, tt_false, decide_eq_true_eq, decide_eq_false_iff_not, beq_iff_eq, beq_eq_false_iff_ne, bne_iff_ne, ne_eq, Bool.not_eq_true, Bool.not_eq_false, Bool.not_eq_eq_eq_not, Bool.not_true, Bool.not_false, Decidable.not_not, Int.not_lt, Int.not_le, gt_iff_lt, ge_iff_le, bne_eq_false_iff_eq]; first | done | assumption | omega), ?_⟩ | refine Or.inr (Or.inl ⟨by first | assumption | (simp only [eqO, Ob.eta, Cl.eta, tt_true, tt_false, decide_eq_true_eq, decide_eq_false_iff_not, beq_iff_eq, beq_eq_false_iff_ne, bne_iff_ne, ne_eq, Bool.not_eq_true, Bool.not_eq_false, Bool.not_eq_eq_eq_not, Bool.not_true, Bool.not_false, Decidable.not_not, Int.not_lt, Int.not_le, gt_iff_lt, ge_iff_le, bne_eq_false_iff_eq]; first | done | assumption | omega), ?_⟩) | (refine Or.inr (Or.inr ⟨fun hsp => ?_, fun hsp => ?_⟩) <;> (try simp only [eqO, Ob.eta, Cl.eta, tt_true, tt_false, decide_eq_true_eq, decide_eq_false_iff_not, beq_iff_eq, beq_eq_false_iff_ne, bne_iff_ne, ne_eq, Bool.not_eq_true, Bool.not_eq_false, Bool.not_eq_eq_eq_not, Bool.not_true, Bool.not_false, Decidable.not_not, Int.not_lt, Int.not_le, gt_iff_lt, ge_iff_le, bne_eq_false_iff_eq] at hsp) <;> try subst hsp))
             | refine ⟨_, _, ok_heap_viewOf_bad C _ o [6] (by assumption) (by decide) (by assumption), ?_⟩
             | fail)
  all_goals (conv => whnf)
  all_goals (first | exact PV.le.refl _ | (refine le_tup (.cons (.emp 7) (.refl _))))
set_option maxHeartbeats 1000000 in
set_option maxRecDepth 100000 in
theorem ok_heap_PutBytes_room (C : Laid P) (h : List Cl) (o : Ob) (ho : o.n < 9223372036854775808) (at1 : Int) (s : List UInt8) (hv : vErr h o [6] = 0) (hr : roomE o at1 s.length ≠ 0) : OkC P G n_heap_PutBytes [.sl 7 (List.map encC h), aO o, pI at1, .str s] [] (.tup [.sl 7 (List.map encC []), pI 23]) := by
  refine ok_fn C (k_heap_PutBytes C) rfl ?_
  repeat' (conv => whnf
           first
             | (with_reducible refine sC (by kernel_rfl) ?_)
             | ((first | with_reducible refine sB ?_ | with_reducible refine sG0 ?_ | with_reducible refine sG1 ?_ | refine sP (by rfl) ?_); first | refine Or.inl ⟨by first | assumption | (simp only [eqO, Ob.eta, Cl.eta, tt_true, tt_false, decide_eq_true_eq, decide_eq_false_iff_not, beq_iff_eq, beq_eq_false_iff_ne, bne_iff_ne, ne_eq, Bool.not_eq_true, Bool.not_eq_false, Bool.not_eq_eq_eq_not, Bool.not_true, Bool.not_false, Decidable.not_not, Int.not_lt, Int.not_le, gt_iff_lt, ge_iff_le, bne_eq_false_iff_eq]; first | done | assumption | omega), ?_⟩ | refine Or.inr (Or.inl ⟨by first | assumption | (simp only [eqO, Ob.eta, Cl.eta, tt_true, tt_false, decide_eq_true_eq, decide_eq_false_iff_not, beq_iff_eq, beq_eq_false_iff_ne, bne_iff_ne, ne_eq, Bool.not_eq_true, Bool.not_eq_false, Bool.not_eq_eq_eq_not, Bool.not_true, Bool.not_false, Decidable.not_not, Int.not_lt, Int.not_le, gt_iff_lt, ge_iff_le, bne_eq_false_iff_eq]; first | done | assumption | omega), ?_⟩) | (refine Or.inr (Or.inr ⟨fun hsp => ?_, fun hsp => ?_⟩) <;> (try simp only [eqO, Ob.eta, Cl.eta, tt_true, tt_false, decide_eq_true_eq, decide_eq_false_iff_not, beq_iff_eq, beq_eq_false_iff_ne, bne_iff_ne, ne_eq, Bool.not_eq_true, Bool.not_eq_false, Bool.not_eq_eq_eq_not, Bool.not_true, Bool.not_false, Decidable.not_not, Int.not_lt, Int.not_le, gt_iff_lt, ge_iff_le, bne_eq_false_iff_eq] at hsp) <;> try subst hsp))
             | refine ⟨_, _, ok_heap_viewOf C _ o [6] (by assumption) (by decide) (by assumption), ?_⟩
             | refine ⟨_, _, (by have k := ok_heap_view_room C h o at1 s.length; rw [room_bad hr] at k; exact k), ?_⟩
             | fail)
  all_goals (conv => whnf)
  all_goals (first | exact PV.le.refl _ | (refine le_tup (.cons (.emp 7) (.refl _))))
set_option maxHeartbeats 1000000 in
set_option maxRecDepth 100000 in
theorem ok_heap_PutItems (C : Laid P) (h : List Cl) (o : Ob) (hs : small h) (ho : o.n < 9223372036854775808) (at1 : Int) (l : List Ob) (hv : vErr h o [7, 8] = 0) (hk : o.kind = 7) (hr : roomE o at1 l.length = 0) : OkC P G n_heap_PutItems [.sl 7 (List.map encC h), aO o, pI at1, .sl 7 (List.map encO l)] [] (.tup [.sl 7 (List.map encC (putIh h o at1 l)), pI 0]) := by
  refine ok_fn C (k_heap_PutItems C) rfl ?_
  obtain ⟨⟨hr1, hr2⟩, ⟨hf1, hf2, hf3⟩, hc6⟩ := vfacts78 hv
  obtain ⟨ha1, ha2, ha3⟩ := room_ok hr (by omega) (by omega)
  have hsm := small_at hs o
  obtain ⟨hm1, hm2, hm3, hm4⟩ := hsm
  have hw : IntKind.i64.wrap (o.off + at1) = o.off + at1 := wrap_small (by omega) (by omega)
  have hh := hs.1
  repeat' (conv => whnf
           first
             | (with_reducible refine sC (by kernel_rfl) ?_)
             | ((first | with_reducible refine sB ?_ | with_reducible refine sG0 ?_ | with_reducible refine sG1 ?_ | refine sP (by rfl) ?_); first | refine Or.inl ⟨by first | assumption | (simp only [eqO, Ob.eta, Cl.eta, tt_true, tt_false, decide_eq_true_eq, decide_eq_false_iff_not, beq_iff_eq, beq_eq_false_iff_ne, bne_iff_ne, ne_eq, Bool.not_eq_true, Bool.not_eq_false, Bool.not_eq_eq_eq_not, Bool.not_true, Bool.not_false, Decidable.not_not, Int.not_lt, Int.not_le, gt_iff_lt, ge_iff_le, bne_eq_false_iff_eq]; first | done | assumption | omega), ?_⟩ | refine Or.inr (Or.inl ⟨by first | assumption | (simp only [eqO, Ob.eta, Cl.eta, tt_true, tt_false, decide_eq_true_eq, decide_eq_false_iff_not, beq_iff_eq, beq_eq_false_iff_ne, bne_iff_ne, ne_eq, Bool.not_eq_true, Bool.not_eq_false, Bool.not_eq_eq_eq_not, Bool.not_true, Bool.not_false, Decidable.not_not, Int.not_lt, Int.not_le, gt_iff_lt, ge_iff_le, bne_eq_false_iff_eq]; first | done | assumption | omega), ?_⟩) | (refine Or.inr (Or.inr ⟨fun hsp => ?_, fun hsp => ?_⟩) <;> (try simp only [eqO, Ob.eta, Cl.eta, tt_true, tt_false, decide_eq_true_eq, decide_eq_false_iff_not, beq_iff_eq, beq_eq_false_iff_ne, bne_iff_ne, ne_eq, Bool.not_eq_true, Bool.not_eq_false, Bool.not_eq_eq_eq_not, Bool.not_true, Bool.not_false, Decidable.not_not, Int.not_lt, Int.not_le, gt_iff_lt, ge_iff_le, bne_eq_false_iff_eq] at hsp) <;> try subst hsp))
             | refine ⟨_, _, ok_heap_viewOf C _ o [7, 8] (by assumption) (by decide) (by assumption), ?_⟩
             | refine ⟨_, _, (by rw [List.length_map]; have k := ok_heap_view_room C h o at1 l.length; rw [hr] at k; exact k), ?_⟩
             | refine ⟨_, _, ok_heap_view_cell C h o hr1 hr2, ?_⟩
             | refine ⟨_, _, (by rw [hw]; exact ok_heap_replaced_Obj C (cellAt h o).items l (o.off + at1) (by omega) (by omega) (by omega)), ?_⟩
             | refine ⟨_, _, ok_heap_view_with C h o { cellAt h o with items := repl (cellAt h o).items (o.off + at1).toNat l } hr1 hr2 hh, ?_⟩
             | fail)
  all_goals (conv => whnf)
  all_goals (exact PV.le.refl _)
set_option maxHeartbeats 1000000 in
set_option maxRecDepth 100000 in
theorem ok_heap_PutItems_bad (C : Laid P) (h : List Cl) (o : Ob) (ho : o.n < 9223372036854775808) (at1 : Int) (l : List Ob) (hv : vErr h o [7, 8] ≠ 0) : OkC P G n_heap_PutItems [.sl 7 (List.map encC h), aO o, pI at1, .sl 7 (List.map encO l)] [] (.tup [.sl 7 (List.map encC []), pI (vErr h o [7, 8])]) := by
  refine ok_fn C (k_heap_PutItems C) rfl ?_
  repeat' (conv => whnf
           first
             | (with_reducible refine sC (by kernel_rfl) ?_)
             | ((first | with_reducible refine sB ?_ | with_reducible refine sG0 ?_ | with_reducible refine sG1 ?_ | refine sP (by rfl) ?_); first | refine Or.inl ⟨by first | assumption | (simp only [eqO, Ob.eta, Cl.eta, tt_true, tt_false, decide_eq_true_eq, decide_eq_false_iff_not, beq_iff_eq, beq_eq_false_iff_ne, bne_iff_ne, ne_eq, Bool.not_eq_true, Bool.not_eq_false, Bool.not_eq_eq_eq_not, Bool.not_true, Bool.not_false, Decidable.not_not, Int.not_lt, Int.not_le, gt_iff_lt, ge_iff_le, bne_eq_false_iff_eq]; first | done | assumption | omega), ?_⟩ | refine Or.inr (Or.inl ⟨by first | assumption | (simp only [eqO, Ob.eta, Cl.eta, tt_true, tt_false, decide_eq_true_eq, decide_eq_false_iff_not, beq_iff_eq, beq_eq_false_iff_ne, bne_iff_ne, ne_eq, Bool.not_eq_true, Bool.not_eq_false, Bool.not_eq_eq_eq_not, Bool.not_true, Bool.not_false, Decidable.not_not, Int.not_lt, Int.not_le, gt_iff_lt, ge_iff_le, bne_eq_false_iff_eq]; first | done | assumption | omega), ?_⟩) | (refine Or.inr (Or.inr ⟨fun hsp => ?_, fun hsp => ?_⟩) <;> (try simp only [eqO, Ob.eta, Cl.eta, tt_true, tt_false, decide_eq_true_eq, decide_eq_false_iff_not, beq_iff_eq, beq_eq_false_iff_ne, bne_iff_ne, ne_eq, Bool.not_eq_true, Bool.not_eq_false, Bool.not_eq_eq_eq_not, Bool.not_true, Bool.not_false, Decidable.not_not, Int.not_lt, Int.not_le, gt_iff_lt, ge_iff_le, bne_eq_false_iff_eq] at hsp) <;> try subst hsp))
             | refine ⟨_, _, ok_heap_viewOf_bad C _ o [7, 8] (by assumption) (by decide) (by assumption), ?_⟩
             | fail)
  all_goals (conv => whnf)
  all_goals (first | exact PV.le.refl _ | (refine le_tup (.cons (.emp 7) (.refl _))))
set_option maxHeartbeats 1000000 in
set_option maxRecDepth 100000 in
theorem ok_heap_PutItems_packed (C : Laid P) (h : List Cl) (o : Ob) (ho : o.n < 9223372036854775808) (at1 : Int) (l : List Ob) (hv : vErr h o [7, 8] = 0) (hk : o.kind = 8) : OkC P G n_heap_PutItems [.sl 7 (List.map encC h), aO o, pI at1, .sl 7 (List.map encO l)] [] (.tup [.sl 7 (List.map encC []), pI 31]) := by
  refine ok_fn C (k_heap_PutItems C) rfl ?_
  repeat' (conv => whnf
           first
             | (with_reducible refine sC (by kernel_rfl) ?_)
             | ((first | with_reducible refine sB ?_ | with_reducible refine sG0 ?_ | with_reducible refine sG1 ?_ | refine sP (by rfl) ?_); first | refine Or.inl ⟨by first | assumption | (simp only [eqO, Ob.eta, Cl.eta, tt_true, tt_false, decide_eq_true_eq, decide_eq_false_iff_not, beq_iff_eq, beq_eq_false_iff_ne, bne_iff_ne, ne_eq, Bool.not_eq_true, Bool.not_eq_false, Bool.not_eq_eq_eq_not, Bool.not_true, Bool.not_false, Decidable.not_not, Int.not_lt, Int.not_le, gt_iff_lt, ge_iff_le, bne_eq_false_iff_eq]; first | done | assumption | omega), ?_⟩ | refine Or.inr (Or.inl ⟨by first | assumption | (simp only [eqO, Ob.eta, Cl.eta, tt_true, tt_false, decide_eq_true_eq, decide_eq_false_iff_not, beq_iff_eq, beq_eq_false_iff_ne, bne_iff_ne, ne_eq, Bool.not_eq_true, Bool.not_eq_false, Bool.not_eq_eq_eq_not, Bool.not_true, Bool.not_false, Decidable.not_not, Int.not_lt, Int.not_le, gt_iff_lt, ge_iff_le, bne_eq_false_iff_eq]; first | done | assumption | omega), ?_⟩) | (refine Or.inr (Or.inr ⟨fun hsp => ?_, fun hsp => ?_⟩) <;> (try simp only [eqO, Ob.eta, Cl.eta, tt_true, tt_false, decide_eq_true_eq, decide_eq_false_iff_not, beq_iff_eq, beq_eq_false_iff_ne, bne_iff_ne, ne_eq, Bool.not_eq_true, Bool.not_eq_false, Bool.not_eq_eq_eq_not, Bool.not_true, Bool.not_false, Decidable.not_not, Int.not_lt, Int.not_le, gt_iff_lt, ge_iff_le, bne_eq_false_iff_eq] at hsp) <;> try subst hsp))
             | refine ⟨_, _, ok_heap_viewOf C _ o [7, 8] (by assumption) (by decide) (by assumption), ?_⟩
             | fail)
  all_goals (conv => whnf)
  all_goals (first | exact PV.le.refl _ | (refine le_tup (.cons (.emp 7) (.refl _))))
set_option maxHeartbeats 1000000 in
set_option maxRecDepth 100000 in
theorem ok_heap_PutItems_room (C : Laid P) (h : List Cl) (o : Ob) (ho : o.n < 9223372036854775808) (at1 : Int) (l : List Ob) (hv : vErr h o [7, 8] = 0) (hk : o.kind = 7) (hr : roomE o at1 l.length ≠ 0) : OkC P G n_heap_PutItems [.sl 7 (List.map encC h), aO o, pI at1, .sl 7 (List.map encO l)] [] (.tup [.sl 7 (List.map encC []), pI 23]) := by
  refine ok_fn C (k_heap_PutItems C) rfl ?_
  repeat' (conv => whnf
           first
             | (with_reducible refine sC (by kernel_rfl) ?_)
             | ((first | with_reducible refine sB ?_ | with_reducible refine sG0 ?_ | with_reducible refine sG1 ?_ | refine sP (by rfl) ?_); first | refine Or.inl ⟨by first | assumption | (simp only [eqO, Ob.eta, Cl.eta, tt_true, tt_false, decide_eq_true_eq, decide_eq_false_iff_not, beq_iff_eq, beq_eq_false_iff_ne, bne_iff_ne, ne_eq, Bool.not_eq_true, Bool.not_eq_false, Bool.not_eq_eq_eq_not, Bool.not_true, Bool.not_false, Decidable.not_not, Int.not_lt, Int.not_le, gt_iff_lt, ge_iff_le, bne_eq_false_iff_eq]; first | done | assumption | omega), ?_⟩ | refine Or.inr (Or.inl ⟨by first | assumption | (simp only [eqO, Ob.eta, Cl.eta, tt_true, tt_false, decide_eq_true_eq, decide_eq_false_iff_not, beq_iff_eq, beq_eq_false_iff_ne, bne_iff_ne, ne_eq, Bool.not_eq_true, Bool.not_eq_false, Bool.not_eq_eq_eq_not, Bool.not_true, Bool.not_false, Decidable.not_not, Int.not_lt, Int.not_le, gt_iff_lt, ge_iff_le, bne_eq_false_iff_eq]; first | done | assumption | omega), ?_⟩) | (refine Or.inr (Or.inr ⟨fun hsp => ?_, fun hsp => ?_⟩) <;> (try simp only [eqO, Ob.eta, Cl.eta, tt_true, tt_false, decide_eq_true_eq, decide_eq_false_iff_not, beq_iff_eq, beq_eq_false_iff_ne, bne_iff_ne, ne_eq, Bool.not_eq_true, Bool.not_eq_false, Bool.not_eq_eq_eq_not, Bool.not_true, Bool.not_false, Decidable.not_not, Int.not_lt, Int.not_le, gt_iff_lt, ge_iff_le, bne_eq_false_iff_eq] at hsp) <;> try subst hsp))
             | refine ⟨_, _, ok_heap_viewOf C _ o [7, 8] (by assumption) (by decide) (by assumption), ?_⟩
             | refine ⟨_, _, (by rw [List.length_map]; have k := ok_heap_view_room C h o at1 l.length; rw [room_bad hr] at k; exact k), ?_⟩
             | fail)
  all_goals (conv => whnf)
  all_goals (first | exact PV.le.refl _ | (refine le_tup (.cons (.emp 7) (.refl _))))
theorem repl_len {α : Type} {l x : List α} {k : Nat} (hk : k + x.length ≤ l.length) : (repl l k x).length = l.length := by
  unfold repl; simp; omega


end Go.Ab.Td
