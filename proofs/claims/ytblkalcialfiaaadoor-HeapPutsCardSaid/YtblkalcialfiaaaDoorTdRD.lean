/- Joined texts: TdRA, TdRB, TdRC, TdRD. Under: nothing. -/
import Derived.Test.YtblkalcialfiaaaDoorTdG
import Derived.Test.YtblkalcialfiaaaDoorSp3
import Derived.Test.YtblkalcialfiaaaDoorTdH
/- The reference: objects, heaps. Under: nothing. -/
namespace Go.Ab.Td
open Go Go.Ab
variable {P : Program}
set_option linter.unusedSimpArgs false
attribute [local irreducible] compat

end Go.Ab.Td

/- The reference: heaps changed. Under: nothing. -/
namespace Go.Ab.Td
open Go Go.Ab
variable {P : Program}
set_option linter.unusedSimpArgs false
attribute [local irreducible] compat

set_option maxHeartbeats 1000000 in
set_option maxRecDepth 100000 in
theorem ok_ref11_With (C : Laid P) (h : List Cl) (n : Int) (c : Cl) (h0 : 0 ≤ n) (h1 : n < h.length) (hl : h.length ≤ 1000000) : OkC P G n_ref11_With [.sl 7 (List.map encC h), pI n, aC c] [] (.sl 7 (List.map encC (h.set n.toNat c))) := by
  refine ok_fn C (k_ref11_With C) rfl ?_
  repeat' (conv => whnf
           first
             | (with_reducible refine sC (by kernel_rfl) ?_)
             | ((first | with_reducible refine sB ?_ | with_reducible refine sG0 ?_ | with_reducible refine sG1 ?_ | refine sP (by rfl) ?_); first | refine Or.inl ⟨by first | assumption | (simp only [eqO, Ob.eta, Cl.eta, tt_true, tt_false, decide_eq_true_eq, decide_eq_false_iff_not, beq_iff_eq, beq_eq_false_iff_ne, bne_iff_ne, ne_eq, Bool.not_eq_true, Bool.not_eq_false, Bool.not_eq_eq_eq_not, Bool.not_true, Bool.not_false, Decidable.not_not, Int.not_lt, Int.not_le, gt_iff_lt, ge_iff_le, bne_eq_false_iff_eq]; first | done | assumption | omega), ?_⟩ | refine Or.inr (Or.inl ⟨by first | assumption | (simp only [eqO, Ob.eta, Cl.eta, tt_true, tt_false, decide_eq_true_eq, decide_eq_false_iff_not, beq_iff_eq, beq_eq_false_iff_ne, bne_iff_ne, ne_eq, Bool.not_eq_true, Bool.not_eq_false, Bool.not_eq_eq_eq_not, Bool.not_true, Bool.not_false, Decidable.not_not, Int.not_lt, Int.not_le, gt_iff_lt, ge_iff_le, bne_eq_false_iff_eq]; first | done | assumption | omega), ?_⟩) | (refine Or.inr (Or.inr ⟨fun hsp => ?_, fun hsp => ?_⟩) <;> (try simp only [eqO, Ob.eta, Cl.eta, tt_true, tt_false, decide_eq_true_eq, decide_eq_false_iff_not, beq_iff_eq, beq_eq_false_iff_ne, bne_iff_ne, ne_eq, Bool.not_eq_true, Bool.not_eq_false, Bool.not_eq_eq_eq_not, Bool.not_true, Bool.not_false, Decidable.not_not, Int.not_lt, Int.not_le, gt_iff_lt, ge_iff_le, bne_eq_false_iff_eq] at hsp) <;> try subst hsp))
             | refine sS (append_fM  (by rfl) (by first | exact prows_pv | exact prows_fsl | exact prows_own (by rfl) (by rfl)) (by rfl) (by (try simp only [List.length_map, List.length_append, List.length_take, List.length_drop, List.length_cons, List.length_nil, List.length_replicate, List.length_set, Int.toNat_natCast]); omega)) ?_
             | refine sS (append_fM (f := encO) (x' := [⟨_, _, _, _, _, _, _⟩]) (by rfl) (by first | exact prows_pv | exact prows_fsl | exact prows_own (by rfl) (by rfl)) (by rfl) (by (try simp only [List.length_map, List.length_append, List.length_take, List.length_drop, List.length_cons, List.length_nil, List.length_replicate, List.length_set, Int.toNat_natCast]); omega)) ?_
             | refine sS (append_fM (f := encC) (x' := [⟨_, _, _, _, _, _, _⟩]) (by rfl) (by first | exact prows_pv | exact prows_fsl | exact prows_own (by rfl) (by rfl)) (by rfl) (by (try simp only [List.length_map, List.length_append, List.length_take, List.length_drop, List.length_cons, List.length_nil, List.length_replicate, List.length_set, Int.toNat_natCast]); omega)) ?_
             | refine sS (append_oM  (by rfl) (by rfl) (by (try simp only [List.length_map, List.length_append, List.length_take, List.length_drop, List.length_cons, List.length_nil, List.length_replicate, List.length_set, Int.toNat_natCast]); omega) (by first | exact prows_pv | exact prows_fsl | exact prows_own (by rfl) (by rfl)) (by rfl) (by (try simp only [List.length_map, List.length_append, List.length_take, List.length_drop, List.length_cons, List.length_nil, List.length_replicate, List.length_set, Int.toNat_natCast]); omega)) ?_
             | refine sS (append_oM (f := encO) (x' := [⟨_, _, _, _, _, _, _⟩]) (by rfl) (by rfl) (by (try simp only [List.length_map, List.length_append, List.length_take, List.length_drop, List.length_cons, List.length_nil, List.length_replicate, List.length_set, Int.toNat_natCast]); omega) (by first | exact prows_pv | exact prows_fsl | exact prows_own (by rfl) (by rfl)) (by rfl) (by (try simp only [List.length_map, List.length_append, List.length_take, List.length_drop, List.length_cons, List.length_nil, List.length_replicate, List.length_set, Int.toNat_natCast]); omega)) ?_
             | refine sS (append_oM (f := encC) (x' := [⟨_, _, _, _, _, _, _⟩]) (by rfl) (by rfl) (by (try simp only [List.length_map, List.length_append, List.length_take, List.length_drop, List.length_cons, List.length_nil, List.length_replicate, List.length_set, Int.toNat_natCast]); omega) (by first | exact prows_pv | exact prows_fsl | exact prows_own (by rfl) (by rfl)) (by rfl) (by (try simp only [List.length_map, List.length_append, List.length_take, List.length_drop, List.length_cons, List.length_nil, List.length_replicate, List.length_set, Int.toNat_natCast]); omega)) ?_
             | refine sS (append_eM  (by rfl) (by first | exact prows_pv | exact prows_fsl | exact prows_own (by rfl) (by rfl)) (by rfl) (by (try simp only [List.length_map, List.length_append, List.length_take, List.length_drop, List.length_cons, List.length_nil, List.length_replicate, List.length_set, Int.toNat_natCast]); omega)) ?_
             | refine sS (append_eM (f := encO) (x' := [⟨_, _, _, _, _, _, _⟩]) (by rfl) (by first | exact prows_pv | exact prows_fsl | exact prows_own (by rfl) (by rfl)) (by rfl) (by (try simp only [List.length_map, List.length_append, List.length_take, List.length_drop, List.length_cons, List.length_nil, List.length_replicate, List.length_set, Int.toNat_natCast]); omega)) ?_
             | refine sS (append_eM (f := encC) (x' := [⟨_, _, _, _, _, _, _⟩]) (by rfl) (by first | exact prows_pv | exact prows_fsl | exact prows_own (by rfl) (by rfl)) (by rfl) (by (try simp only [List.length_map, List.length_append, List.length_take, List.length_drop, List.length_cons, List.length_nil, List.length_replicate, List.length_set, Int.toNat_natCast]); omega)) ?_
             | refine sS (slice_mM (by rfl) (by rfl) (by rfl) (by rfl) (by (try simp only [List.length_map, List.length_append, List.length_take, List.length_drop, List.length_cons, List.length_nil, List.length_replicate, List.length_set, Int.toNat_natCast]); omega) (by (try simp only [List.length_map, List.length_append, List.length_take, List.length_drop, List.length_cons, List.length_nil, List.length_replicate, List.length_set, Int.toNat_natCast]); omega) (by first | rfl | ((try simp only [List.length_map, List.length_append, List.length_take, List.length_drop, List.length_cons, List.length_nil, List.length_replicate, List.length_set, Int.toNat_natCast]); omega)) (by (try simp only [List.length_map, List.length_append, List.length_take, List.length_drop, List.length_cons, List.length_nil, List.length_replicate, List.length_set, Int.toNat_natCast]); omega)) ?_
             | refine sS (slice_M (by rfl) (by rfl) (by rfl) (by (try simp only [List.length_map, List.length_append, List.length_take, List.length_drop, List.length_cons, List.length_nil, List.length_replicate, List.length_set, Int.toNat_natCast]); omega) (by (try simp only [List.length_map, List.length_append, List.length_take, List.length_drop, List.length_cons, List.length_nil, List.length_replicate, List.length_set, Int.toNat_natCast]); omega) (by (try simp only [List.length_map, List.length_append, List.length_take, List.length_drop, List.length_cons, List.length_nil, List.length_replicate, List.length_set, Int.toNat_natCast]); omega)) ?_
             | refine sS (slice_fM (by rfl) (by rfl) (by rfl) (by (try simp only [List.length_map, List.length_append, List.length_take, List.length_drop, List.length_cons, List.length_nil, List.length_replicate, List.length_set, Int.toNat_natCast]); omega) (by (try simp only [List.length_map, List.length_append, List.length_take, List.length_drop, List.length_cons, List.length_nil, List.length_replicate, List.length_set, Int.toNat_natCast]); omega) (by (try simp only [List.length_map, List.length_append, List.length_take, List.length_drop, List.length_cons, List.length_nil, List.length_replicate, List.length_set, Int.toNat_natCast]); omega)) ?_
             | refine sS (sslice_lh (by rfl) (by rfl) (by rfl) (by (try simp only [List.length_map, List.length_append, List.length_take, List.length_drop, List.length_cons, List.length_nil, List.length_replicate, List.length_set, Int.toNat_natCast]); omega) (by (try simp only [List.length_map, List.length_append, List.length_take, List.length_drop, List.length_cons, List.length_nil, List.length_replicate, List.length_set, Int.toNat_natCast]); omega) (by (try simp only [List.length_map, List.length_append, List.length_take, List.length_drop, List.length_cons, List.length_nil, List.length_replicate, List.length_set, Int.toNat_natCast]); omega)) ?_
             | refine sS (iaddr_at (by rfl) (by rfl) (by omega) (row_at (d := cl0) (by omega) (by omega))) ?_
             | refine sS (iaddr_at (by rfl) (by rfl) (by omega) (row_at (d := ob0) (by omega) (by omega))) ?_
             | refine sS (rem_at (by rfl) (by rfl) (by omega)) ?_
             | refine sS (quo_at (by rfl) (by rfl) (by omega)) ?_
             | refine sS (iaddr_o (by rfl) (by rfl) (by rfl) (by omega) (by first | omega | (simp only [List.length_map]; omega))) ?_
             | refine sS (store_M (c := c) (by rfl) (by rfl) (by omega) (fun _ => rfl) (by rfl) (by rfl) (by rfl)) ?_
             | fail)
  all_goals (conv => whnf)
  all_goals (refine le_sle ?_; simp; exact List.take_of_length_le (by simp))
end Go.Ab.Td

/- The reference: a key stored; lists of names. Under: nothing. -/
namespace Go.Ab.Td
open Go Go.Ab
variable {P : Program}
set_option linter.unusedSimpArgs false
attribute [local irreducible] compat
theorem pub_all {α : Type} {f : α → List PV} {l : List α} {n : Nat} (h : l.length = n) : List.take n (List.drop 0 (List.map f l)) = List.map f l := by
  subst h
  rw [List.drop_zero, List.take_of_length_le (by simp)]


end Go.Ab.Td

/- The reference: keys, resources. Under: nothing. -/
namespace Go.Ab.Td
open Go Go.Ab
variable {P : Program}
set_option linter.unusedSimpArgs false
attribute [local irreducible] compat
end Go.Ab.Td
