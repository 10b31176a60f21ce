/- Putting. Under: nothing. -/
import Derived.Test.YtblkalcialfiaaaDoorTdLr
import Derived.Test.YtblkalcialfiaaaDoorAbMm
namespace Go.Ab.Td
open Go Go.Ab
variable {P : Program}
set_option linter.unusedSimpArgs false
attribute [local irreducible] compat
abbrev bRow (b : UInt8) : List PV := [.int .u8 b.toNat]
theorem bytes_rows (s : List UInt8) : bytesOfRows (s.map bRow) = some s := by
  induction s with
  | nil => rfl
  | cons b s ih =>
    simp only [List.map_cons, bytesOfRows, ih, Int.toNat_natCast, UInt8.ofNat_toNat]


set_option maxHeartbeats 1000000 in
set_option maxRecDepth 100000 in
theorem ok_heap_replaced_byte (C : Laid P) (l x : List UInt8) (i : Int) (h0 : 0 ≤ i) (h1 : i + x.length ≤ l.length) (hl : l.length ≤ 1000000) : OkC P G n_heap_replaced_byte [.sl 1 (l.map bRow), pI i, .sl 1 (x.map bRow)] [] (.sl 1 ((repl l i.toNat x).map bRow)) := by
  refine ok_fn C (k_heap_replaced_byte C) rfl ?_
  repeat' (conv => whnf
           first
             | (with_reducible refine sC (by kernel_rfl) ?_)
             | ((first | with_reducible refine sB ?_ | with_reducible refine sG0 ?_ | with_reducible refine sG1 ?_ | refine sP (by rfl) ?_); first | refine Or.inl ⟨by first | assumption | (simp only [eqO, Ob.eta, Cl.eta, tt_true, tt_false, decide_eq_true_eq, decide_eq_false_iff_not, beq_iff_eq, beq_eq_false_iff_ne, bne_iff_ne, ne_eq, Bool.not_eq_true, Bool.not_eq_false, Bool.not_eq_eq_eq_not, Bool.not_true, Bool.not_false, Decidable.not_not, Int.not_lt, Int.not_le, gt_iff_lt, ge_iff_le, bne_eq_false_iff_eq]; first | done | assumption | omega), ?_⟩ | refine Or.inr (Or.inl ⟨by first | assumption | (simp only [eqO, Ob.eta, Cl.eta, tt_true, tt_false, decide_eq_true_eq, decide_eq_false_iff_not, beq_iff_eq, beq_eq_false_iff_ne, bne_iff_ne, ne_eq, Bool.not_eq_true, Bool.not_eq_false, Bool.not_eq_eq_eq_not, Bool.not_true, Bool.not_false, Decidable.not_not, Int.not_lt, Int.not_le, gt_iff_lt, ge_iff_le, bne_eq_false_iff_eq]; first | done | assumption | omega), ?_⟩) | (refine Or.inr (Or.inr ⟨fun hsp => ?_, fun hsp => ?_⟩) <;> (try simp only [eqO, Ob.eta, Cl.eta, tt_true, tt_false, decide_eq_true_eq, decide_eq_false_iff_not, beq_iff_eq, beq_eq_false_iff_ne, bne_iff_ne, ne_eq, Bool.not_eq_true, Bool.not_eq_false, Bool.not_eq_eq_eq_not, Bool.not_true, Bool.not_false, Decidable.not_not, Int.not_lt, Int.not_le, gt_iff_lt, ge_iff_le, bne_eq_false_iff_eq] at hsp) <;> try subst hsp))
             | refine sS (mksl_at (by rfl) (by omega) (by simp only [List.length_map]; omega) (by rfl) (by decide)) ?_
             | refine sS (copy_M (by rfl) (by rfl) prows_pv (by simp) (by simp)) ?_
             | refine sS (slice_oM (by rfl) (by rfl) (by rfl) (by omega) (by simp only [List.length_map]; omega) (by simp [SObj.len]) (by rfl)) ?_
             | refine sS (copy_P (by rfl) (by rfl) prows_pv (by simp only [List.length_map]; omega) (by simp only [List.length_map]; omega)) ?_
             | fail)
  all_goals (conv => whnf)
  all_goals (refine le_sle ?_; simp [repl]; first | done | omega | (rw [List.take_of_length_le]; simp; omega))
theorem b2s_at {σ : Store} {nm : Nat} {ev : RA → AV} {x : RA} {s : List UInt8} (hx : ev x = .pv (.sl 1 (s.map bRow))) : step σ nm ev (.b2s x) = some { v := .pv (.str s) } := by
  simp [step, hx, prowsOf, AV.e, bytes_rows]
theorem put_eq {b s : List UInt8} {k : Int} (h0 : 0 ≤ k) (_hk : k + s.length ≤ b.length) : (b.take k.toNat).drop (0 : Int).toNat ++ s ++ (b.take ((b.length : Nat) : Int).toNat).drop (k + s.length).toNat = repl b k.toNat s := by
  unfold repl
  rw [Int.toNat_natCast, List.take_length, show (0 : Int).toNat = 0 from rfl, List.drop_zero, show (k + s.length).toNat = k.toNat + s.length by omega]
theorem pub_b {l : List UInt8} {n : Nat} (h : l.length = n) : List.take n (List.drop 0 (List.map bRow l)) = List.map bRow l := pub_all h
open Classical in
/-- Whether n elements from an index on are within an object. -/
noncomputable def roomE (o : Ob) (at' n : Int) : Int := if at' < 0 ∨ at' > o.len ∨ n > IntKind.i64.wrap (o.len - at') then 23 else 0
theorem room_ok {o : Ob} {at' n : Int} (h : roomE o at' n = 0) (h0 : 0 ≤ o.len) (h1 : o.len ≤ 1000) : 0 ≤ at' ∧ at' + n ≤ o.len ∧ at' ≤ o.len := by
  unfold roomE at h
  split at h
  · cases h
  · have : IntKind.i64.wrap (o.len - at') = o.len - at' := wrap_small (by omega) (by omega)
    omega
theorem room_bad {o : Ob} {at' n : Int} (h : roomE o at' n ≠ 0) : roomE o at' n = 23 := by
  unfold roomE at *
  split
  · rfl
  · rename_i hx; rw [if_neg hx] at h; exact absurd rfl h
/-- A heap with other octets in a string. -/
def putBh (h : List Cl) (o : Ob) (at' : Int) (s : List UInt8) : List Cl := h.set o.ref.toNat { cellAt h o with bytes := repl (cellAt h o).bytes (o.off + at').toNat s }
def putIh (h : List Cl) (o : Ob) (at' : Int) (l : List Ob) : List Cl := h.set o.ref.toNat { cellAt h o with items := repl (cellAt h o).items (o.off + at').toNat l }
theorem vfacts6 {h : List Cl} {o : Ob} (hv : vErr h o [6] = 0) : (0 ≤ o.ref ∧ o.ref < h.length) ∧ (0 ≤ o.off ∧ 0 ≤ o.len ∧ o.off + o.len ≤ 1000) ∧ o.off + o.len ≤ (cellAt h o).bytes.length := by
  obtain ⟨⟨hr1, hr2⟩, ⟨hf1, hf2, hf3⟩, hk, hc⟩ := view_facts hv
  have hk6 : o.kind = 6 := by simpa using hk
  obtain ⟨hc3, hc4, hc5⟩ := hc.resolve_left (by rw [hk6]; decide)
  exact ⟨⟨hr1, by omega⟩, ⟨hf1, hf2, hf3⟩, by simpa [hk6, Cl.length, hc4, cellK] using hc5⟩


set_option maxHeartbeats 1000000 in
set_option maxRecDepth 100000 in
theorem ok_heap_view_room (C : Laid P) (h : List Cl) (o : Ob) (at1 n : Int) : OkC P G n_heap_view_room [.agg (.sl 7 (List.map encC h) :: encO o), pI at1, pI n] [] (pI (roomE o at1 n)) := by
  refine ok_fn C (k_heap_view_room C) rfl ?_
  repeat' (conv => whnf
           first
             | (with_reducible refine sC (by kernel_rfl) ?_)
             | ((first | with_reducible refine sB ?_ | with_reducible refine sG0 ?_ | with_reducible refine sG1 ?_ | refine sP (by rfl) ?_); first | refine Or.inl ⟨by first | assumption | (simp only [eqO, Ob.eta, Cl.eta, tt_true, tt_false, decide_eq_true_eq, decide_eq_false_iff_not, beq_iff_eq, beq_eq_false_iff_ne, bne_iff_ne, ne_eq, Bool.not_eq_true, Bool.not_eq_false, Bool.not_eq_eq_eq_not, Bool.not_true, Bool.not_false, Decidable.not_not, Int.not_lt, Int.not_le, gt_iff_lt, ge_iff_le, bne_eq_false_iff_eq]; first | done | assumption | omega), ?_⟩ | refine Or.inr (Or.inl ⟨by first | assumption | (simp only [eqO, Ob.eta, Cl.eta, tt_true, tt_false, decide_eq_true_eq, decide_eq_false_iff_not, beq_iff_eq, beq_eq_false_iff_ne, bne_iff_ne, ne_eq, Bool.not_eq_true, Bool.not_eq_false, Bool.not_eq_eq_eq_not, Bool.not_true, Bool.not_false, Decidable.not_not, Int.not_lt, Int.not_le, gt_iff_lt, ge_iff_le, bne_eq_false_iff_eq]; first | done | assumption | omega), ?_⟩) | (refine Or.inr (Or.inr ⟨fun hsp => ?_, fun hsp => ?_⟩) <;> (try simp only [eqO, Ob.eta, Cl.eta, tt_true, tt_false, decide_eq_true_eq, decide_eq_false_iff_not, beq_iff_eq, beq_eq_false_iff_ne, bne_iff_ne, ne_eq, Bool.not_eq_true, Bool.not_eq_false, Bool.not_eq_eq_eq_not, Bool.not_true, Bool.not_false, Decidable.not_not, Int.not_lt, Int.not_le, gt_iff_lt, ge_iff_le, bne_eq_false_iff_eq] at hsp) <;> try subst hsp))
             | fail)
  all_goals (conv => whnf)
  all_goals (refine le_int ?_; first | (unfold roomE; rw [if_pos (by omega)]) | (unfold roomE; rw [if_neg (by omega)]))
set_option maxHeartbeats 1000000 in
set_option maxRecDepth 100000 in
theorem ok_heap_PutBytes (C : Laid P) (h : List Cl) (o : Ob) (hs : small h) (ho : o.n < 9223372036854775808) (at1 : Int) (s : List UInt8) (hv : vErr h o [6] = 0) (hr : roomE o at1 s.length = 0) : OkC P G n_heap_PutBytes [.sl 7 (List.map encC h), aO o, pI at1, .str s] [] (.tup [.sl 7 (List.map encC (putBh h o at1 s)), pI 0]) := by
  refine ok_fn C (k_heap_PutBytes C) rfl ?_
  obtain ⟨⟨hr1, hr2⟩, ⟨hf1, hf2, hf3⟩, hc6⟩ := vfacts6 hv
  obtain ⟨ha1, ha2, ha3⟩ := room_ok hr (by omega) (by omega)
  have hsm := small_at hs o
  obtain ⟨hm1, hm2, hm3, hm4⟩ := hsm
  have hw : IntKind.i64.wrap (o.off + at1) = o.off + at1 := wrap_small (by omega) (by omega)
  have hh := hs.1
  repeat' (conv => whnf
           first
             | (with_reducible refine sC (by kernel_rfl) ?_)
             | ((first | with_reducible refine sB ?_ | with_reducible refine sG0 ?_ | with_reducible refine sG1 ?_ | refine sP (by rfl) ?_); first | refine Or.inl ⟨by first | assumption | (simp only [eqO, Ob.eta, Cl.eta, tt_true, tt_false, decide_eq_true_eq, decide_eq_false_iff_not, beq_iff_eq, beq_eq_false_iff_ne, bne_iff_ne, ne_eq, Bool.not_eq_true, Bool.not_eq_false, Bool.not_eq_eq_eq_not, Bool.not_true, Bool.not_false, Decidable.not_not, Int.not_lt, Int.not_le, gt_iff_lt, ge_iff_le, bne_eq_false_iff_eq]; first | done | assumption | omega), ?_⟩ | refine Or.inr (Or.inl ⟨by first | assumption | (simp only [eqO, Ob.eta, Cl.eta, tt_true, tt_false, decide_eq_true_eq, decide_eq_false_iff_not, beq_iff_eq, beq_eq_false_iff_ne, bne_iff_ne, ne_eq, Bool.not_eq_true, Bool.not_eq_false, Bool.not_eq_eq_eq_not, Bool.not_true, Bool.not_false, Decidable.not_not, Int.not_lt, Int.not_le, gt_iff_lt, ge_iff_le, bne_eq_false_iff_eq]; first | done | assumption | omega), ?_⟩) | (refine Or.inr (Or.inr ⟨fun hsp => ?_, fun hsp => ?_⟩) <;> (try simp only [eqO, Ob.eta, Cl.eta, tt_true, tt_false, decide_eq_true_eq, decide_eq_false_iff_not, beq_iff_eq, beq_eq_false_iff_ne, bne_iff_ne, ne_eq, Bool.not_eq_true, Bool.not_eq_false, Bool.not_eq_eq_eq_not, Bool.not_true, Bool.not_false, Decidable.not_not, Int.not_lt, Int.not_le, gt_iff_lt, ge_iff_le, bne_eq_false_iff_eq] at hsp) <;> try subst hsp))
             | refine ⟨_, _, ok_heap_viewOf C _ o [6] (by assumption) (by decide) (by assumption), ?_⟩
             | refine ⟨_, _, (by have k := ok_heap_view_room C h o at1 s.length; rw [hr] at k; exact k), ?_⟩
             | refine ⟨_, _, ok_heap_view_cell C h o hr1 hr2, ?_⟩
             | refine ⟨_, _, (by rw [pub_b (l := (cellAt h o).bytes) rfl, pub_b (l := s) rfl, hw]; exact ok_heap_replaced_byte C (cellAt h o).bytes s (o.off + at1) (by omega) (by omega) (by omega)), ?_⟩
             | refine ⟨_, _, ok_heap_view_with C h o { cellAt h o with bytes := repl (cellAt h o).bytes (o.off + at1).toNat s } hr1 hr2 hh, ?_⟩
             | refine sS (b2s_at (s := repl (cellAt h o).bytes (o.off + at1).toNat s) (by rfl)) ?_
             | fail)
  all_goals (conv => whnf)
  all_goals (exact PV.le.refl _)
set_option maxHeartbeats 1000000 in
set_option maxRecDepth 100000 in
theorem ok_heap_PutBytes_bad (C : Laid P) (h : List Cl) (o : Ob) (ho : o.n < 9223372036854775808) (at1 : Int) (s : List UInt8) (hv : vErr h o [6] ≠ 0) : OkC P G n_heap_PutBytes [.sl 7 (List.map encC h), aO o, pI at1, .str s] [] (.tup [.sl 7 (List.map encC []), pI (vErr h o [6])]) := by
  refine ok_fn C (k_heap_PutBytes C) rfl ?_
  repeat' (conv => whnf
           first
             | (with_reducible refine sC (by kernel_rfl) ?_)
             | ((first | with_reducible refine sB ?_ | with_reducible refine sG0 ?_ | with_reducible refine sG1 ?_ | refine sP (by rfl) ?_); first | refine Or.inl ⟨by first | assumption | (simp only [eqO, Ob.eta, Cl.eta, tt_true, tt_false, decide_eq_true_eq, decide_eq_false_iff_not, beq_iff_eq, beq_eq_false_iff_ne, bne_iff_ne, ne_eq, Bool.not_eq_true, Bool.not_eq_false, Bool.not_eq_eq_eq_not, Bool.not_true, Bool.not_false, Decidable.not_not, Int.not_lt, Int.not_le, gt_iff_lt, ge_iff_le, bne_eq_false_iff_eq]; first | done | assumption | omega), ?_⟩ | refine Or.inr (Or.inl ⟨by first | assumption | (simp only [eqO, Ob.eta, Cl.eta, tt_true, tt_false, decide_eq_true_eq, decide_eq_false_iff_not, beq_iff_eq, beq_eq_false_iff_ne, bne_iff_ne, ne_eq, Bool.not_eq_true, Bool.not_eq_false, Bool.not_eq_eq_eq_not, Bool.not_true, Bool.not_false, Decidable.not_not, Int.not_lt, Int.not_le, gt_iff_lt, ge_iff_le, bne_eq_false_iff_eq]; first | done | assumption | omega), ?_⟩) | (refine Or.inr (Or.inr ⟨fun hsp => ?_, fun hsp => ?_⟩) <;> (try simp only [eqO, Ob.eta, Cl.eta, tt_true, tt_false, decide_eq_true_eq, decide_eq_false_iff_not, beq_iff_eq, beq_eq_false_iff_ne, bne_iff_ne, ne_eq, Bool.not_eq_true, Bool.not_eq_false, Bool.not_eq_eq_eq_not, Bool.not_true, Bool.not_false, Decidable.not_not, Int.not_lt, Int.not_le, gt_iff_lt, ge_iff_le, bne_eq_false_iff_eq] at hsp) <;> try subst hsp))
             | refine ⟨_, _, ok_heap_viewOf_bad C _ o [6] (by assumption) (by decide) (by assumption), ?_⟩
             | fail)
  all_goals (conv => whnf)
  all_goals (first | exact PV.le.refl _ | (refine le_tup (.cons (.emp 7) (.refl _))))
set_option maxHeartbeats 1000000 in
set_option maxRecDepth 100000 in
theorem ok_heap_PutBytes_room (C : Laid P) (h : List Cl) (o : Ob) (ho : o.n < 9223372036854775808) (at1 : Int) (s : List UInt8) (hv : vErr h o [6] = 0) (hr : roomE o at1 s.length ≠ 0) : OkC P G n_heap_PutBytes [.sl 7 (List.map encC h), aO o, pI at1, .str s] [] (.tup [.sl 7 (List.map encC []), pI 23]) := by
  refine ok_fn C (k_heap_PutBytes C) rfl ?_
  repeat' (conv => whnf
           first
             | (with_reducible refine sC (by kernel_rfl) ?_)
             | ((first | with_reducible refine sB ?_ | with_reducible refine sG0 ?_ | with_reducible refine sG1 ?_ | refine sP (by rfl) ?_); first | refine Or.inl ⟨by first | assumption | (simp only [eqO, Ob.eta, Cl.eta, tt_true, tt_false, decide_eq_true_eq, decide_eq_false_iff_not, beq_iff_eq, beq_eq_false_iff_ne, bne_iff_ne, ne_eq, Bool.not_eq_true, Bool.not_eq_false, Bool.not_eq_eq_eq_not, Bool.not_true, Bool.not_false, Decidable.not_not, Int.not_lt, Int.not_le, gt_iff_lt, ge_iff_le, bne_eq_false_iff_eq]; first | done | assumption | omega), ?_⟩ | refine Or.inr (Or.inl ⟨by first | assumption | (simp only [eqO, Ob.eta, Cl.eta, tt_true, tt_false, decide_eq_true_eq, decide_eq_false_iff_not, beq_iff_eq, beq_eq_false_iff_ne, bne_iff_ne, ne_eq, Bool.not_eq_true, Bool.not_eq_false, Bool.not_eq_eq_eq_not, Bool.not_true, Bool.not_false, Decidable.not_not, Int.not_lt, Int.not_le, gt_iff_lt, ge_iff_le, bne_eq_false_iff_eq]; first | done | assumption | omega), ?_⟩) | (refine Or.inr (Or.inr ⟨fun hsp => ?_, fun hsp => ?_⟩) <;> (try simp only [eqO, Ob.eta, Cl.eta, tt_true, tt_false, decide_eq_true_eq, decide_eq_false_iff_not, beq_iff_eq, beq_eq_false_iff_ne, bne_iff_ne, ne_eq, Bool.not_eq_true, Bool.not_eq_false, Bool.not_eq_eq_eq_not, Bool.not_true, Bool.not_false, Decidable.not_not, Int.not_lt, Int.not_le, gt_iff_lt, ge_iff_le, bne_eq_false_iff_eq] at hsp) <;> try subst hsp))
             | refine ⟨_, _, ok_heap_viewOf C _ o [6] (by assumption) (by decide) (by assumption), ?_⟩
             | refine ⟨_, _, (by have k := ok_heap_view_room C h o at1 s.length; rw [room_bad hr] at k; exact k), ?_⟩
             | fail)
  all_goals (conv => whnf)
  all_goals (first | exact PV.le.refl _ | (refine le_tup (.cons (.emp 7) (.refl _))))
set_option maxHeartbeats 1000000 in
set_option maxRecDepth 100000 in
theorem ok_heap_PutItems (C : Laid P) (h : List Cl) (o : Ob) (hs : small h) (ho : o.n < 9223372036854775808) (at1 : Int) (l : List Ob) (hv : vErr h o [7, 8] = 0) (hk : o.kind = 7) (hr : roomE o at1 l.length = 0) : OkC P G n_heap_PutItems [.sl 7 (List.map encC h), aO o, pI at1, .sl 7 (List.map encO l)] [] (.tup [.sl 7 (List.map encC (putIh h o at1 l)), pI 0]) := by
  refine ok_fn C (k_heap_PutItems C) rfl ?_
  obtain ⟨⟨hr1, hr2⟩, ⟨hf1, hf2, hf3⟩, hc6⟩ := vfacts78 hv
  obtain ⟨ha1, ha2, ha3⟩ := room_ok hr (by omega) (by omega)
  have hsm := small_at hs o
  obtain ⟨hm1, hm2, hm3, hm4⟩ := hsm
  have hw : IntKind.i64.wrap (o.off + at1) = o.off + at1 := wrap_small (by omega) (by omega)
  have hh := hs.1
  repeat' (conv => whnf
           first
             | (with_reducible refine sC (by kernel_rfl) ?_)
             | ((first | with_reducible refine sB ?_ | with_reducible refine sG0 ?_ | with_reducible refine sG1 ?_ | refine sP (by rfl) ?_); first | refine Or.inl ⟨by first | assumption | (simp only [eqO, Ob.eta, Cl.eta, tt_true, tt_false, decide_eq_true_eq, decide_eq_false_iff_not, beq_iff_eq, beq_eq_false_iff_ne, bne_iff_ne, ne_eq, Bool.not_eq_true, Bool.not_eq_false, Bool.not_eq_eq_eq_not, Bool.not_true, Bool.not_false, Decidable.not_not, Int.not_lt, Int.not_le, gt_iff_lt, ge_iff_le, bne_eq_false_iff_eq]; first | done | assumption | omega), ?_⟩ | refine Or.inr (Or.inl ⟨by first | assumption | (simp only [eqO, Ob.eta, Cl.eta, tt_true, tt_false, decide_eq_true_eq, decide_eq_false_iff_not, beq_iff_eq, beq_eq_false_iff_ne, bne_iff_ne, ne_eq, Bool.not_eq_true, Bool.not_eq_false, Bool.not_eq_eq_eq_not, Bool.not_true, Bool.not_false, Decidable.not_not, Int.not_lt, Int.not_le, gt_iff_lt, ge_iff_le, bne_eq_false_iff_eq]; first | done | assumption | omega), ?_⟩) | (refine Or.inr (Or.inr ⟨fun hsp => ?_, fun hsp => ?_⟩) <;> (try simp only [eqO, Ob.eta, Cl.eta, tt_true, tt_false, decide_eq_true_eq, decide_eq_false_iff_not, beq_iff_eq, beq_eq_false_iff_ne, bne_iff_ne, ne_eq, Bool.not_eq_true, Bool.not_eq_false, Bool.not_eq_eq_eq_not, Bool.not_true, Bool.not_false, Decidable.not_not, Int.not_lt, Int.not_le, gt_iff_lt, ge_iff_le, bne_eq_false_iff_eq] at hsp) <;> try subst hsp))
             | refine ⟨_, _, ok_heap_viewOf C _ o [7, 8] (by assumption) (by decide) (by assumption), ?_⟩
             | refine ⟨_, _, (by rw [List.length_map]; have k := ok_heap_view_room C h o at1 l.length; rw [hr] at k; exact k), ?_⟩
             | refine ⟨_, _, ok_heap_view_cell C h o hr1 hr2, ?_⟩
             | refine ⟨_, _, (by rw [hw]; exact ok_heap_replaced_Obj C (cellAt h o).items l (o.off + at1) (by omega) (by omega) (by omega)), ?_⟩
             | refine ⟨_, _, ok_heap_view_with C h o { cellAt h o with items := repl (cellAt h o).items (o.off + at1).toNat l } hr1 hr2 hh, ?_⟩
             | fail)
  all_goals (conv => whnf)
  all_goals (exact PV.le.refl _)
set_option maxHeartbeats 1000000 in
set_option maxRecDepth 100000 in
theorem ok_heap_PutItems_bad (C : Laid P) (h : List Cl) (o : Ob) (ho : o.n < 9223372036854775808) (at1 : Int) (l : List Ob) (hv : vErr h o [7, 8] ≠ 0) : OkC P G n_heap_PutItems [.sl 7 (List.map encC h), aO o, pI at1, .sl 7 (List.map encO l)] [] (.tup [.sl 7 (List.map encC []), pI (vErr h o [7, 8])]) := by
  refine ok_fn C (k_heap_PutItems C) rfl ?_
  repeat' (conv => whnf
           first
             | (with_reducible refine sC (by kernel_rfl) ?_)
             | ((first | with_reducible refine sB ?_ | with_reducible refine sG0 ?_ | with_reducible refine sG1 ?_ | refine sP (by rfl) ?_); first | refine Or.inl ⟨by first | assumption | (simp only [eqO, Ob.eta, Cl.eta, tt_true, tt_false, decide_eq_true_eq, decide_eq_false_iff_not, beq_iff_eq, beq_eq_false_iff_ne, bne_iff_ne, ne_eq, Bool.not_eq_true, Bool.not_eq_false, Bool.not_eq_eq_eq_not, Bool.not_true, Bool.not_false, Decidable.not_not, Int.not_lt, Int.not_le, gt_iff_lt, ge_iff_le, bne_eq_false_iff_eq]; first | done | assumption | omega), ?_⟩ | refine Or.inr (Or.inl ⟨by first | assumption | (simp only [eqO, Ob.eta, Cl.eta, tt_true, tt_false, decide_eq_true_eq, decide_eq_false_iff_not, beq_iff_eq, beq_eq_false_iff_ne, bne_iff_ne, ne_eq, Bool.not_eq_true, Bool.not_eq_false, Bool.not_eq_eq_eq_not, Bool.not_true, Bool.not_false, Decidable.not_not, Int.not_lt, Int.not_le, gt_iff_lt, ge_iff_le, bne_eq_false_iff_eq]; first | done | assumption | omega), ?_⟩) | (refine Or.inr (Or.inr ⟨fun hsp => ?_, fun hsp => ?_⟩) <;> (try simp only [eqO, Ob.eta, Cl.eta, tt_true, tt_false, decide_eq_true_eq, decide_eq_false_iff_not, beq_iff_eq, beq_eq_false_iff_ne, bne_iff_ne, ne_eq, Bool.not_eq_true, Bool.not_eq_false, Bool.not_eq_eq_eq_not, Bool.not_true, Bool.not_false, Decidable.not_not, Int.not_lt, Int.not_le, gt_iff_lt, ge_iff_le, bne_eq_false_iff_eq] at hsp) <;> try subst hsp))
             | refine ⟨_, _, ok_heap_viewOf_bad C _ o [7, 8] (by assumption) (by decide) (by assumption), ?_⟩
             | fail)
  all_goals (conv => whnf)
  all_goals (first | exact PV.le.refl _ | (refine le_tup (.cons (.emp 7) (.refl _))))
set_option maxHeartbeats 1000000 in
set_option maxRecDepth 100000 in
theorem ok_heap_PutItems_packed (C : Laid P) (h : List Cl) (o : Ob) (ho : o.n < 9223372036854775808) (at1 : Int) (l : List Ob) (hv : vErr h o [7, 8] = 0) (hk : o.kind = 8) : OkC P G n_heap_PutItems [.sl 7 (List.map encC h), aO o, pI at1, .sl 7 (List.map encO l)] [] (.tup [.sl 7 (List.map encC []), pI 31]) := by
  refine ok_fn C (k_heap_PutItems C) rfl ?_
  repeat' (conv => whnf
           first
             | (with_reducible refine sC (by kernel_rfl) ?_)
             | ((first | with_reducible refine sB ?_ | with_reducible refine sG0 ?_ | with_reducible refine sG1 ?_ | refine sP (by rfl) ?_); first | refine Or.inl ⟨by first | assumption | (simp only [eqO, Ob.eta, Cl.eta, tt_true, tt_false, decide_eq_true_eq, decide_eq_false_iff_not, beq_iff_eq, beq_eq_false_iff_ne, bne_iff_ne, ne_eq, Bool.not_eq_true, Bool.not_eq_false, Bool.not_eq_eq_eq_not, Bool.not_true, Bool.not_false, Decidable.not_not, Int.not_lt, Int.not_le, gt_iff_lt, ge_iff_le, bne_eq_false_iff_eq]; first | done | assumption | omega), ?_⟩ | refine Or.inr (Or.inl ⟨by first | assumption | (simp only [eqO, Ob.eta, Cl.eta, tt_true, tt_false, decide_eq_true_eq, decide_eq_false_iff_not, beq_iff_eq, beq_eq_false_iff_ne, bne_iff_ne, ne_eq, Bool.not_eq_true, Bool.not_eq_false, Bool.not_eq_eq_eq_not, Bool.not_true, Bool.not_false, Decidable.not_not, Int.not_lt, Int.not_le, gt_iff_lt, ge_iff_le, bne_eq_false_iff_eq]; first | done | assumption | omega), ?_⟩) | (refine Or.inr (Or.inr ⟨fun hsp => ?_, fun hsp => ?_⟩) <;> (try simp only [eqO, Ob.eta, Cl.eta, tt_true, tt_false, decide_eq_true_eq, decide_eq_false_iff_not, beq_iff_eq, beq_eq_false_iff_ne, bne_iff_ne, ne_eq, Bool.not_eq_true, Bool.not_eq_false, Bool.not_eq_eq_eq_not, Bool.not_true, Bool.not_false, Decidable.not_not, Int.not_lt, Int.not_le, gt_iff_lt, ge_iff_le, bne_eq_false_iff_eq] at hsp) <;> try subst hsp))
             | refine ⟨_, _, ok_heap_viewOf C _ o [7, 8] (by assumption) (by decide) (by assumption), ?_⟩
             | fail)
  all_goals (conv => whnf)
  all_goals (first | exact PV.le.refl _ | (refine le_tup (.cons (.emp 7) (.refl _))))
set_option maxHeartbeats 1000000 in
set_option maxRecDepth 100000 in
theorem ok_heap_PutItems_room (C : Laid P) (h : List Cl) (o : Ob) (ho : o.n < 9223372036854775808) (at1 : Int) (l : List Ob) (hv : vErr h o [7, 8] = 0) (hk : o.kind = 7) (hr : roomE o at1 l.length ≠ 0) : OkC P G n_heap_PutItems [.sl 7 (List.map encC h), aO o, pI at1, .sl 7 (List.map encO l)] [] (.tup [.sl 7 (List.map encC []), pI 23]) := by
  refine ok_fn C (k_heap_PutItems C) rfl ?_
  repeat' (conv => whnf
           first
             | (with_reducible refine sC (by kernel_rfl) ?_)
             | ((first | with_reducible refine sB ?_ | with_reducible refine sG0 ?_ | with_reducible refine sG1 ?_ | refine sP (by rfl) ?_); first | refine Or.inl ⟨by first | assumption | (simp only [eqO, Ob.eta, Cl.eta, tt_true, tt_false, decide_eq_true_eq, decide_eq_false_iff_not, beq_iff_eq, beq_eq_false_iff_ne, bne_iff_ne, ne_eq, Bool.not_eq_true, Bool.not_eq_false, Bool.not_eq_eq_eq_not, Bool.not_true, Bool.not_false, Decidable.not_not, Int.not_lt, Int.not_le, gt_iff_lt, ge_iff_le, bne_eq_false_iff_eq]; first | done | assumption | omega), ?_⟩ | refine Or.inr (Or.inl ⟨by first | assumption | (simp only [eqO, Ob.eta, Cl.eta, tt_true, tt_false, decide_eq_true_eq, decide_eq_false_iff_not, beq_iff_eq, beq_eq_false_iff_ne, bne_iff_ne, ne_eq, Bool.not_eq_true, Bool.not_eq_false, Bool.not_eq_eq_eq_not, Bool.not_true, Bool.not_false, Decidable.not_not, Int.not_lt, Int.not_le, gt_iff_lt, ge_iff_le, bne_eq_false_iff_eq]; first | done | assumption | omega), ?_⟩) | (refine Or.inr (Or.inr ⟨fun hsp => ?_, fun hsp => ?_⟩) <;> (try simp only [eqO, Ob.eta, Cl.eta, tt_true, tt_false, decide_eq_true_eq, decide_eq_false_iff_not, beq_iff_eq, beq_eq_false_iff_ne, bne_iff_ne, ne_eq, Bool.not_eq_true, Bool.not_eq_false, Bool.not_eq_eq_eq_not, Bool.not_true, Bool.not_false, Decidable.not_not, Int.not_lt, Int.not_le, gt_iff_lt, ge_iff_le, bne_eq_false_iff_eq] at hsp) <;> try subst hsp))
             | refine ⟨_, _, ok_heap_viewOf C _ o [7, 8] (by assumption) (by decide) (by assumption), ?_⟩
             | refine ⟨_, _, (by rw [List.length_map]; have k := ok_heap_view_room C h o at1 l.length; rw [room_bad hr] at k; exact k), ?_⟩
             | fail)
  all_goals (conv => whnf)
  all_goals (first | exact PV.le.refl _ | (refine le_tup (.cons (.emp 7) (.refl _))))
set_option maxHeartbeats 1000000 in
set_option maxRecDepth 100000 in
theorem ok_law11_none (C : Laid P) (h : List Cl) (e w : Int) : OkC P G n_law11_none [.sl 7 (List.map encC h), pI e, pI w] [] (.bool (decide (h = []) && decide (e = w))) := by
  refine ok_fn C (k_law11_none C) rfl ?_
  repeat' (conv => whnf
           first
             | (with_reducible refine sC (by kernel_rfl) ?_)
             | ((first | with_reducible refine sB ?_ | with_reducible refine sG0 ?_ | with_reducible refine sG1 ?_ | refine sP (by rfl) ?_); first | refine Or.inl ⟨by first | assumption | (simp only [eqO, Ob.eta, Cl.eta, tt_true, tt_false, decide_eq_true_eq, decide_eq_false_iff_not, beq_iff_eq, beq_eq_false_iff_ne, bne_iff_ne, ne_eq, Bool.not_eq_true, Bool.not_eq_false, Bool.not_eq_eq_eq_not, Bool.not_true, Bool.not_false, Decidable.not_not, Int.not_lt, Int.not_le, gt_iff_lt, ge_iff_le, bne_eq_false_iff_eq]; first | done | assumption | omega), ?_⟩ | refine Or.inr (Or.inl ⟨by first | assumption | (simp only [eqO, Ob.eta, Cl.eta, tt_true, tt_false, decide_eq_true_eq, decide_eq_false_iff_not, beq_iff_eq, beq_eq_false_iff_ne, bne_iff_ne, ne_eq, Bool.not_eq_true, Bool.not_eq_false, Bool.not_eq_eq_eq_not, Bool.not_true, Bool.not_false, Decidable.not_not, Int.not_lt, Int.not_le, gt_iff_lt, ge_iff_le, bne_eq_false_iff_eq]; first | done | assumption | omega), ?_⟩) | (refine Or.inr (Or.inr ⟨fun hsp => ?_, fun hsp => ?_⟩) <;> (try simp only [eqO, Ob.eta, Cl.eta, tt_true, tt_false, decide_eq_true_eq, decide_eq_false_iff_not, beq_iff_eq, beq_eq_false_iff_ne, bne_iff_ne, ne_eq, Bool.not_eq_true, Bool.not_eq_false, Bool.not_eq_eq_eq_not, Bool.not_true, Bool.not_false, Decidable.not_not, Int.not_lt, Int.not_le, gt_iff_lt, ge_iff_le, bne_eq_false_iff_eq] at hsp) <;> try subst hsp))
             | fail)
  all_goals (conv => whnf)
  all_goals (refine le_of_eq ?_; cases h <;> simp_all <;> first | omega | (by_cases e = w <;> simp_all))

set_option maxHeartbeats 1000000 in
set_option maxRecDepth 100000 in
theorem ok_ref11_PutBytes (C : Laid P) (h : List Cl) (o : Ob) (hs : small h) (_ho : o.n < 9223372036854775808) (at1 : Int) (s : List UInt8) (hl : s.length ≤ 30) (hv : vErr h o [6] = 0) (hr : roomE o at1 s.length = 0) : OkC P G n_ref11_PutBytes [.sl 7 (List.map encC h), aO o, pI at1, .str s] [] (.sl 7 (List.map encC (putBh h o at1 s))) := by
  refine ok_fn C (k_ref11_PutBytes C) rfl ?_
  obtain ⟨⟨hr1, hr2⟩, ⟨hf1, hf2, hf3⟩, hc6⟩ := vfacts6 hv
  obtain ⟨ha1, ha2, ha3⟩ := room_ok hr (by omega) (by omega)
  have hsm := small_at hs o
  obtain ⟨hm1, hm2, hm3, hm4⟩ := hsm
  have hw : IntKind.i64.wrap (o.off + at1) = o.off + at1 := wrap_small (by omega) (by omega)
  have hh := hs.1
  have hw2 : IntKind.i64.wrap (o.off + at1 + s.length) = o.off + at1 + s.length := wrap_small (by omega) (by omega)
  have hca : ((h[o.ref.toNat]?).getD cl0) = cellAt h o := rfl
  repeat' (conv => whnf
           first
             | (with_reducible refine sC (by kernel_rfl) ?_)
             | ((first | with_reducible refine sB ?_ | with_reducible refine sG0 ?_ | with_reducible refine sG1 ?_ | refine sP (by rfl) ?_); first | refine Or.inl ⟨by first | assumption | (simp only [eqO, Ob.eta, Cl.eta, tt_true, tt_false, decide_eq_true_eq, decide_eq_false_iff_not, beq_iff_eq, beq_eq_false_iff_ne, bne_iff_ne, ne_eq, Bool.not_eq_true, Bool.not_eq_false, Bool.not_eq_eq_eq_not, Bool.not_true, Bool.not_false, Decidable.not_not, Int.not_lt, Int.not_le, gt_iff_lt, ge_iff_le, bne_eq_false_iff_eq]; first | done | assumption | omega), ?_⟩ | refine Or.inr (Or.inl ⟨by first | assumption | (simp only [eqO, Ob.eta, Cl.eta, tt_true, tt_false, decide_eq_true_eq, decide_eq_false_iff_not, beq_iff_eq, beq_eq_false_iff_ne, bne_iff_ne, ne_eq, Bool.not_eq_true, Bool.not_eq_false, Bool.not_eq_eq_eq_not, Bool.not_true, Bool.not_false, Decidable.not_not, Int.not_lt, Int.not_le, gt_iff_lt, ge_iff_le, bne_eq_false_iff_eq]; first | done | assumption | omega), ?_⟩) | (refine Or.inr (Or.inr ⟨fun hsp => ?_, fun hsp => ?_⟩) <;> (try simp only [eqO, Ob.eta, Cl.eta, tt_true, tt_false, decide_eq_true_eq, decide_eq_false_iff_not, beq_iff_eq, beq_eq_false_iff_ne, bne_iff_ne, ne_eq, Bool.not_eq_true, Bool.not_eq_false, Bool.not_eq_eq_eq_not, Bool.not_true, Bool.not_false, Decidable.not_not, Int.not_lt, Int.not_le, gt_iff_lt, ge_iff_le, bne_eq_false_iff_eq] at hsp) <;> try subst hsp))
             | refine ⟨_, _, (by rw [hw, hw2, put_eq (by omega) (by omega)]; exact ok_ref11_With C h o.ref { cellAt h o with bytes := repl (cellAt h o).bytes (o.off + at1).toNat s } hr1 hr2 hh), ?_⟩
             | refine sS (iaddr_at (by rfl) (by rfl) (by omega) (row_at (d := cl0) (by omega) (by omega))) ?_
             | refine sS (sslice_lh (s := (cellAt h o).bytes) (l := 0) (by rfl) (by rfl) (by rfl) (by omega) (by rw [hw]; omega) (by rw [hw]; omega)) ?_
             | refine sS (sslice_lh (s := (cellAt h o).bytes) (h := (cellAt h o).bytes.length) (by rfl) (by rfl) (by rfl) (by rw [hw, hw2]; omega) (by rw [hw, hw2]; omega) (by omega)) ?_
             | refine sS (add_str (by rfl) (by rfl) (by simp only [List.length_append, List.length_take, List.length_drop]; omega)) ?_
             | fail)
  all_goals (conv => whnf)
  all_goals (first | exact PV.le.refl _ | skip)
theorem repl_get {α : Type} {l x : List α} {k i : Nat} (hk : k + x.length ≤ l.length) (hi : i < l.length) : (repl l k x)[i]? = if k ≤ i ∧ i < k + x.length then x[i - k]? else l[i]? := by
  unfold repl
  by_cases h1 : i < k
  · rw [if_neg (by omega), List.append_assoc, List.getElem?_append_left (by simp; omega), List.getElem?_take_of_lt h1]
  · by_cases h2 : i < k + x.length
    · rw [if_pos ⟨by omega, h2⟩, List.append_assoc, List.getElem?_append_right (by simp; omega), List.getElem?_append_left (by simp; omega)]
      congr 1
      simp; omega
    · rw [if_neg (by omega), List.getElem?_append_right (by simp; omega), List.getElem?_drop]
      congr 1
      simp; omega
theorem take_next {α : Type} {l : List α} {i : Nat} {v : α} (h : l[i]? = some v) : l.take (i + 1) = l.take i ++ [v] := by
  rw [List.take_add_one, h]; rfl
theorem repl_len {α : Type} {l x : List α} {k : Nat} (hk : k + x.length ≤ l.length) : (repl l k x).length = l.length := by
  unfold repl; simp; omega


set_option maxHeartbeats 1000000 in
set_option maxRecDepth 100000 in
theorem ok_ref11_PutItems (C : Laid P) (h : List Cl) (o : Ob) (hs : small h) (_ho : o.n < 9223372036854775808) (at1 : Int) (l : List Ob) (hl : l.length ≤ 8) (hv : vErr h o [7, 8] = 0) (hr : roomE o at1 l.length = 0) : OkC P G n_ref11_PutItems [.sl 7 (List.map encC h), aO o, pI at1, .sl 7 (List.map encO l)] [] (.sl 7 (List.map encC (putIh h o at1 l))) := by
  refine ok_fn C (k_ref11_PutItems C) rfl ?_
  obtain ⟨⟨hr1, hr2⟩, ⟨hf1, hf2, hf3⟩, hc6⟩ := vfacts78 hv
  obtain ⟨ha1, ha2, ha3⟩ := room_ok hr (by omega) (by omega)
  have hsm := small_at hs o
  obtain ⟨hm1, hm2, hm3, hm4⟩ := hsm
  have hw : IntKind.i64.wrap (o.off + at1) = o.off + at1 := wrap_small (by omega) (by omega)
  have hh := hs.1
  have hca : ((h[o.ref.toNat]?).getD cl0) = cellAt h o := rfl
  have hkl : (o.off + at1).toNat + l.length ≤ (cellAt h o).items.length := by omega
  have hRl := repl_len hkl
  repeat' (conv => whnf
           first
             | (with_reducible refine sC (by kernel_rfl) ?_)
             | ((first | with_reducible refine sB ?_ | with_reducible refine sG0 ?_ | with_reducible refine sG1 ?_ | refine sP (by rfl) ?_); first | refine Or.inl ⟨by first | assumption | (simp only [eqO, Ob.eta, Cl.eta, tt_true, tt_false, decide_eq_true_eq, decide_eq_false_iff_not, beq_iff_eq, beq_eq_false_iff_ne, bne_iff_ne, ne_eq, Bool.not_eq_true, Bool.not_eq_false, Bool.not_eq_eq_eq_not, Bool.not_true, Bool.not_false, Decidable.not_not, Int.not_lt, Int.not_le, gt_iff_lt, ge_iff_le, bne_eq_false_iff_eq, List.length_map]; first | done | assumption | omega), ?_⟩ | refine Or.inr (Or.inl ⟨by first | assumption | (simp only [eqO, Ob.eta, Cl.eta, tt_true, tt_false, decide_eq_true_eq, decide_eq_false_iff_not, beq_iff_eq, beq_eq_false_iff_ne, bne_iff_ne, ne_eq, Bool.not_eq_true, Bool.not_eq_false, Bool.not_eq_eq_eq_not, Bool.not_true, Bool.not_false, Decidable.not_not, Int.not_lt, Int.not_le, gt_iff_lt, ge_iff_le, bne_eq_false_iff_eq, List.length_map]; first | done | assumption | omega), ?_⟩) | (refine Or.inr (Or.inr ⟨fun hsp => ?_, fun hsp => ?_⟩) <;> (try simp only [eqO, Ob.eta, Cl.eta, tt_true, tt_false, decide_eq_true_eq, decide_eq_false_iff_not, beq_iff_eq, beq_eq_false_iff_ne, bne_iff_ne, ne_eq, Bool.not_eq_true, Bool.not_eq_false, Bool.not_eq_eq_eq_not, Bool.not_true, Bool.not_false, Decidable.not_not, Int.not_lt, Int.not_le, gt_iff_lt, ge_iff_le, bne_eq_false_iff_eq, List.length_map] at hsp) <;> try subst hsp))
             | refine sS (iaddr_at (by rfl) (by rfl) (by omega) (row_at (d := cl0) (by omega) (by omega))) ?_
             | fail)
  all_goals (conv => whnf)

  intro X hX hW
  refine hW _ _ (.tmp 10 7 (by decide) (by rfl)) ?_
  refine loopI hX (fun st (a : Nat) => st.upd [(10, .own 44 0 a), (11, .pv (pI (a : Int)))] [(44, .arr 7 (((repl (cellAt h o).items (o.off + at1).toNat l).take a).map encO) false)]) (fun a m => a + m = (cellAt h o).items.length ∧ (((cellAt h o).items.drop a).length = (cellAt h o).items.length - a)) 0 (cellAt h o).items.length (by (conv => whnf); first | done | rfl) (by simp) ?_
  intro m i ih hI
  rcases at_or (cellAt h o).items i with ⟨x, hlt, hx⟩ | hge
  · have hrow := row_map (f := encO) hx
    have hd := drop_at hx
    have hI2 := hI.2
    rw [hd] at hI2
    have hwi1 : IntKind.i64.wrap ((i : Int) - o.off) = (i : Int) - o.off := wrap_small (by omega) (by omega)
    have hwi : IntKind.i64.wrap (IntKind.i64.wrap ((i : Int) - o.off) - at1) = (i : Int) - o.off - at1 := by rw [hwi1]; exact wrap_small (by omega) (by omega)
    have hRi : ((repl (cellAt h o).items (o.off + at1).toNat l).take i).length = i := by rw [List.length_take, hRl]; omega
    obtain ⟨v, hv, hR⟩ : ∃ v, ((0 ≤ IntKind.i64.wrap (IntKind.i64.wrap ((i : Int) - o.off) - at1) ∧ IntKind.i64.wrap (IntKind.i64.wrap ((i : Int) - o.off) - at1) < l.length) ∧ v = (l[(IntKind.i64.wrap (IntKind.i64.wrap ((i : Int) - o.off) - at1)).toNat]?).getD ob0 ∨ ¬ (0 ≤ IntKind.i64.wrap (IntKind.i64.wrap ((i : Int) - o.off) - at1) ∧ IntKind.i64.wrap (IntKind.i64.wrap ((i : Int) - o.off) - at1) < l.length) ∧ x = v) ∧ (repl (cellAt h o).items (o.off + at1).toNat l).take (i + 1) = (repl (cellAt h o).items (o.off + at1).toNat l).take i ++ [v] := by
      by_cases hin : 0 ≤ IntKind.i64.wrap (IntKind.i64.wrap ((i : Int) - o.off) - at1) ∧ IntKind.i64.wrap (IntKind.i64.wrap ((i : Int) - o.off) - at1) < l.length
      · refine ⟨_, .inl ⟨hin, rfl⟩, take_next ?_⟩
        rw [repl_get hkl hlt, if_pos (by omega), show i - (o.off + at1).toNat = (IntKind.i64.wrap (IntKind.i64.wrap ((i : Int) - o.off) - at1)).toNat by omega, List.getElem?_eq_getElem (by omega)]
        rfl
      · refine ⟨_, .inr ⟨hin, rfl⟩, take_next ?_⟩
        rw [repl_get hkl hlt, if_neg (by omega), hx]
    rcases hv with ⟨hin, rfl⟩ | ⟨hin, rfl⟩
    repeat' (conv => whnf
             first
               | (with_reducible refine sC (by kernel_rfl) ?_)
               | ((first | with_reducible refine sB ?_ | with_reducible refine sG0 ?_ | with_reducible refine sG1 ?_ | refine sP (by rfl) ?_); first | refine Or.inl ⟨by first | assumption | (simp only [eqO, Ob.eta, Cl.eta, tt_true, tt_false, decide_eq_true_eq, decide_eq_false_iff_not, beq_iff_eq, beq_eq_false_iff_ne, bne_iff_ne, ne_eq, Bool.not_eq_true, Bool.not_eq_false, Bool.not_eq_eq_eq_not, Bool.not_true, Bool.not_false, Decidable.not_not, Int.not_lt, Int.not_le, gt_iff_lt, ge_iff_le, bne_eq_false_iff_eq, List.length_map, hca]; first | done | assumption | omega), ?_⟩ | refine Or.inr (Or.inl ⟨by first | assumption | (simp only [eqO, Ob.eta, Cl.eta, tt_true, tt_false, decide_eq_true_eq, decide_eq_false_iff_not, beq_iff_eq, beq_eq_false_iff_ne, bne_iff_ne, ne_eq, Bool.not_eq_true, Bool.not_eq_false, Bool.not_eq_eq_eq_not, Bool.not_true, Bool.not_false, Decidable.not_not, Int.not_lt, Int.not_le, gt_iff_lt, ge_iff_le, bne_eq_false_iff_eq, List.length_map, hca]; first | done | assumption | omega), ?_⟩) | (refine Or.inr (Or.inr ⟨fun hsp => ?_, fun hsp => ?_⟩) <;> (try simp only [eqO, Ob.eta, Cl.eta, tt_true, tt_false, decide_eq_true_eq, decide_eq_false_iff_not, beq_iff_eq, beq_eq_false_iff_ne, bne_iff_ne, ne_eq, Bool.not_eq_true, Bool.not_eq_false, Bool.not_eq_eq_eq_not, Bool.not_true, Bool.not_false, Decidable.not_not, Int.not_lt, Int.not_le, gt_iff_lt, ge_iff_le, bne_eq_false_iff_eq, List.length_map, hca] at hsp) <;> try subst hsp))
               | refine ⟨_, _, (by rw [pub_all (f := encO) (l := (repl (cellAt h o).items (o.off + at1).toNat l).take i) (by rw [List.length_take, hRl]; omega), List.take_of_length_le (l := (repl (cellAt h o).items (o.off + at1).toNat l)) (by omega)]; exact ok_ref11_With C h o.ref { cellAt h o with items := (repl (cellAt h o).items (o.off + at1).toNat l) } hr1 hr2 hh), ?_⟩
               | refine sS (iaddr_at (by rfl) (by rfl) (by omega) hrow) ?_
               | refine sS (iaddr_at (by rfl) (by rfl) (by omega) (row_at (d := ob0) (by omega) (by omega))) ?_
               | refine sS (append_oM (f := encO) (x' := [(l[(IntKind.i64.wrap (IntKind.i64.wrap ((i : Int) - o.off) - at1)).toNat]?).getD ob0]) (by rfl) (by rfl) hRi (by first | exact prows_pv | exact prows_fsl | exact prows_own (by rfl) (by rfl)) (by rfl) (by simp only [List.length_cons, List.length_nil]; omega)) ?_
               | refine sS (append_oM (f := encO) (x' := [x]) (by rfl) (by rfl) hRi (by first | exact prows_pv | exact prows_fsl | exact prows_own (by rfl) (by rfl)) (by rfl) (by simp only [List.length_cons, List.length_nil]; omega)) ?_
               | fail)
    all_goals (conv => whnf)
    all_goals first
      | (refine ih (m - 1) (i + 1) _ (by omega) ⟨by (try dsimp only); omega, ?_⟩ (by (conv => whnf); first | done | rfl | (simp (disch := omega) only [wrap_succ, hR, List.map_append, List.map_cons, List.map_nil, List.length_cons, List.length_nil, Nat.zero_add])))
      | (with_reducible first | refine le_int ?_ | refine tt_T ?_ | refine tt_F ?_)
      | (refine tt_B ?_; simp only [eqO, Ob.eta, Cl.eta, tt_true, tt_false, decide_eq_true_eq, decide_eq_false_iff_not, beq_iff_eq, beq_eq_false_iff_ne, bne_iff_ne, ne_eq, Bool.not_eq_true, Bool.not_eq_false, Bool.not_eq_eq_eq_not, Bool.not_true, Bool.not_false, Decidable.not_not, Int.not_lt, Int.not_le, gt_iff_lt, ge_iff_le, bne_eq_false_iff_eq])
      | refine le_of_eq ?_
    all_goals (first | rfl | exact PV.le.refl _ | grind)
  · have hd : (cellAt h o).items.drop i = [] := List.drop_eq_nil_of_le hge
    have hI2 := hI.2
    rw [hd] at hI2
    repeat' (conv => whnf
             first
               | (with_reducible refine sC (by kernel_rfl) ?_)
               | ((first | with_reducible refine sB ?_ | with_reducible refine sG0 ?_ | with_reducible refine sG1 ?_ | refine sP (by rfl) ?_); first | refine Or.inl ⟨by first | assumption | (simp only [eqO, Ob.eta, Cl.eta, tt_true, tt_false, decide_eq_true_eq, decide_eq_false_iff_not, beq_iff_eq, beq_eq_false_iff_ne, bne_iff_ne, ne_eq, Bool.not_eq_true, Bool.not_eq_false, Bool.not_eq_eq_eq_not, Bool.not_true, Bool.not_false, Decidable.not_not, Int.not_lt, Int.not_le, gt_iff_lt, ge_iff_le, bne_eq_false_iff_eq, List.length_map, hca]; first | done | assumption | omega), ?_⟩ | refine Or.inr (Or.inl ⟨by first | assumption | (simp only [eqO, Ob.eta, Cl.eta, tt_true, tt_false, decide_eq_true_eq, decide_eq_false_iff_not, beq_iff_eq, beq_eq_false_iff_ne, bne_iff_ne, ne_eq, Bool.not_eq_true, Bool.not_eq_false, Bool.not_eq_eq_eq_not, Bool.not_true, Bool.not_false, Decidable.not_not, Int.not_lt, Int.not_le, gt_iff_lt, ge_iff_le, bne_eq_false_iff_eq, List.length_map, hca]; first | done | assumption | omega), ?_⟩) | (refine Or.inr (Or.inr ⟨fun hsp => ?_, fun hsp => ?_⟩) <;> (try simp only [eqO, Ob.eta, Cl.eta, tt_true, tt_false, decide_eq_true_eq, decide_eq_false_iff_not, beq_iff_eq, beq_eq_false_iff_ne, bne_iff_ne, ne_eq, Bool.not_eq_true, Bool.not_eq_false, Bool.not_eq_eq_eq_not, Bool.not_true, Bool.not_false, Decidable.not_not, Int.not_lt, Int.not_le, gt_iff_lt, ge_iff_le, bne_eq_false_iff_eq, List.length_map, hca] at hsp) <;> try subst hsp))
               | refine ⟨_, _, (by rw [pub_all (f := encO) (l := (repl (cellAt h o).items (o.off + at1).toNat l).take i) (by rw [List.length_take, hRl]; omega), List.take_of_length_le (l := (repl (cellAt h o).items (o.off + at1).toNat l)) (by omega)]; exact ok_ref11_With C h o.ref { cellAt h o with items := (repl (cellAt h o).items (o.off + at1).toNat l) } hr1 hr2 hh), ?_⟩
               | fail)
    all_goals (conv => whnf)
    all_goals first
      | (with_reducible first | refine le_int ?_ | refine tt_T ?_ | refine tt_F ?_)
      | (refine tt_B ?_; simp only [eqO, Ob.eta, Cl.eta, tt_true, tt_false, decide_eq_true_eq, decide_eq_false_iff_not, beq_iff_eq, beq_eq_false_iff_ne, bne_iff_ne, ne_eq, Bool.not_eq_true, Bool.not_eq_false, Bool.not_eq_eq_eq_not, Bool.not_true, Bool.not_false, Decidable.not_not, Int.not_lt, Int.not_le, gt_iff_lt, ge_iff_le, bne_eq_false_iff_eq])
      | refine le_of_eq ?_
    all_goals (first | rfl | exact PV.le.refl _ | grind)
end Go.Ab.Td
