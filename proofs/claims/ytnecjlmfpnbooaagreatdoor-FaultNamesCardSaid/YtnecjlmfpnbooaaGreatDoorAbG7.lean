/- The abstract layer, part 7: values, steps, their soundness. Under: nothing. -/
import Derived.Test.YtnecjlmfpnbooaaGreatDoorAbG6
/- Pure values compared. Under: nothing. -/
namespace Go.Ab

def eqBy : List UInt8 → List UInt8 → Bool
  | [], [] => true
  | a :: l, b :: m => Nat.beq a.toNat b.toNat && eqBy l m
  | _, _ => false

theorem eqBy_eq : ∀ {l m : List UInt8}, eqBy l m = true → l = m
  | [], [], _ => rfl
  | a :: l, b :: m, h => by
    simp only [eqBy, Bool.and_eq_true] at h
    rw [UInt8.toNat_inj.1 (Nat.eq_of_beq_eq_true h.1), eqBy_eq h.2]
  | [], _ :: _, h => by simp [eqBy] at h
  | _ :: _, [], h => by simp [eqBy] at h

mutual
def eqP : PV → PV → Bool
  | .bool a, q => (match q with | .bool b => (match a, b with | true, true => true | false, false => true | _, _ => false) | _ => false)
  | .int k a, q => (match q with | .int k' b => decide (k = k') && decide (a = b) | _ => false)
  | .str a, q => (match q with | .str b => eqBy a b | _ => false)
  | .sl e r, q => (match q with | .sl e' r' => Nat.beq e e' && eqR r r' | _ => false)
  | .ref a, q => (match q with | .ref b => eqL a b | _ => false)
  | .agg a, q => (match q with | .agg b => eqL a b | _ => false)
  | .tup a, q => (match q with | .tup b => eqL a b | _ => false)
  | .emp a, q => (match q with | .emp b => Nat.beq a b | _ => false)
  | .nilFunc, q => (match q with | .nilFunc => true | _ => false)
  | .func _ _ _, _ => false
def eqL : List PV → List PV → Bool
  | [], q => (match q with | [] => true | _ => false)
  | a :: l, q => (match q with | b :: m => eqP a b && eqL l m | _ => false)
def eqR : List (List PV) → List (List PV) → Bool
  | [], q => (match q with | [] => true | _ => false)
  | a :: l, q => (match q with | b :: m => eqL a b && eqR l m | _ => false)
end

mutual
theorem eqP_eq : ∀ (p q : PV), eqP p q = true → p = q
  | .bool a, q, h => by
    simp only [eqP] at h
    split at h
    · split at h <;> first | rfl | cases h
    · cases h
  | .int k a, q, h => by
    simp only [eqP] at h
    split at h
    · simp only [Bool.and_eq_true, decide_eq_true_eq] at h; rw [h.1, h.2]
    · cases h
  | .str a, q, h => by
    simp only [eqP] at h
    split at h
    · rw [eqBy_eq h]
    · cases h
  | .sl e r, q, h => by
    simp only [eqP] at h
    split at h
    · simp only [Bool.and_eq_true] at h
      rw [Nat.eq_of_beq_eq_true h.1, eqR_eq _ _ h.2]
    · cases h
  | .ref a, q, h => by
    simp only [eqP] at h
    split at h
    · rw [eqL_eq _ _ h]
    · cases h
  | .agg a, q, h => by
    simp only [eqP] at h
    split at h
    · rw [eqL_eq _ _ h]
    · cases h
  | .tup a, q, h => by
    simp only [eqP] at h
    split at h
    · rw [eqL_eq _ _ h]
    · cases h
  | .emp a, q, h => by
    simp only [eqP] at h
    split at h
    · rw [Nat.eq_of_beq_eq_true h]
    · cases h
  | .nilFunc, q, h => by
    simp only [eqP] at h
    split at h
    · rfl
    · cases h
  | .func _ _ _, q, h => by simp [eqP] at h
theorem eqL_eq : ∀ (p q : List PV), eqL p q = true → p = q
  | [], q, h => by
    simp only [eqL] at h
    split at h
    · rfl
    · cases h
  | a :: l, q, h => by
    simp only [eqL] at h
    split at h
    · simp only [Bool.and_eq_true] at h
      rw [eqP_eq _ _ h.1, eqL_eq _ _ h.2]
    · cases h
theorem eqR_eq : ∀ (p q : List (List PV)), eqR p q = true → p = q
  | [], q, h => by
    simp only [eqR] at h
    split at h
    · rfl
    · cases h
  | a :: l, q, h => by
    simp only [eqR] at h
    split at h
    · simp only [Bool.and_eq_true] at h
      rw [eqL_eq _ _ h.1, eqR_eq _ _ h.2]
    · cases h
end

/-- A result that is proved already. -/
def know (g0 : Nat) (ps0 : List PV) (own : Own) (r : PV) (kn : Nat → List PV → Option (Own × PV)) : Nat → List PV → Option (Own × PV) := fun g ps => match Nat.beq g g0 with
  | true => (match eqL ps ps0 with | true => some (own, r) | false => kn g ps)
  | false => kn g ps

theorem know_ok {P : Program} {G : Gl} {g0 : Nat} {ps0 : List PV} {own0 : Own} {r0 : PV} {kn : Nat → List PV → Option (Own × PV)} (h0 : OkC P G g0 ps0 own0 r0) (hk : ∀ g ps own r, kn g ps = some (own, r) → OkC P G g ps own r) :
    ∀ g ps own r, know g0 ps0 own0 r0 kn g ps = some (own, r) → OkC P G g ps own r := by
  intro g ps own r h
  unfold know at h
  split at h
  · rename_i hb
    have := Nat.eq_of_beq_eq_true hb
    subst this
    split at h
    · rename_i he
      cases h
      rw [eqL_eq _ _ he]
      exact h0
    · exact hk _ _ _ _ h
  · exact hk _ _ _ _ h
/-- The same, the last argument compared first. -/
def knowR (g0 : Nat) (ps0 : List PV) (own : Own) (r : PV) (kn : Nat → List PV → Option (Own × PV)) : Nat → List PV → Option (Own × PV) := fun g ps => match Nat.beq g g0 with
  | true => (match eqL ps.reverse ps0 with | true => some (own, r) | false => kn g ps)
  | false => kn g ps

theorem knowR_ok {P : Program} {G : Gl} {g0 : Nat} {ps0 : List PV} {own0 : Own} {r0 : PV} {kn : Nat → List PV → Option (Own × PV)} (h0 : OkC P G g0 ps0.reverse own0 r0) (hk : ∀ g ps own r, kn g ps = some (own, r) → OkC P G g ps own r) :
    ∀ g ps own r, knowR g0 ps0 own0 r0 kn g ps = some (own, r) → OkC P G g ps own r := by
  intro g ps own r h
  unfold knowR at h
  split at h
  · rename_i hb
    have := Nat.eq_of_beq_eq_true hb
    subst this
    split at h
    · rename_i he
      cases h
      rw [← eqL_eq _ _ he, List.reverse_reverse] at h0
      exact h0
    · exact hk _ _ _ _ h
  · exact hk _ _ _ _ h
def kn0 : Nat → List PV → Option (Own × PV) := fun _ _ => none
theorem kn0_ok {P : Program} {G : Gl} : ∀ g ps own r, kn0 g ps = some (own, r) → OkC P G g ps own r := fun _ _ _ _ h => by cases h
/-- A result compared with what is said. -/
def isR (own : Own) (r : PV) (o : Option (Own × PV)) : Bool := match o with
  | some (own', r') => decide (own = own') && eqP r' r
  | none => false
theorem isR_eq {own : Own} {r : PV} {o : Option (Own × PV)} (h : isR own r o = true) : o = some (own, r) := by
  unfold isR at h
  split at h
  · simp only [Bool.and_eq_true, decide_eq_true_eq] at h
    rw [eqP_eq _ _ h.2, h.1]
  · cases h
end Go.Ab
