/- Tables of functions. Under: nothing. -/
import Derived.Test.YthpnccneaaeomaaAb36
namespace Go.Ab

inductive TF where
  | nil
  | leaf (g : Nat) (c : RFn)
  | node (l r : TF)

def TF.get (n0 : Nat) : TF → Nat → Option RFn
  | .leaf g c, _ => match g == n0 with | true => some c | false => none
  | .node l r, n => match n % 2 with
    | 0 => TF.get n0 l (n / 2)
    | _ => TF.get n0 r (n / 2)
  | .nil, _ => none

def TF.fn (t : TF) (n : Nat) : Option RFn := TF.get n t n

def TF.all (p : Nat → RFn → Bool) : TF → Bool
  | .nil => true
  | .leaf g c => p g c
  | .node l r => TF.all p l && TF.all p r

theorem TF.get_all {p : Nat → RFn → Bool} {n0 : Nat} {c : RFn} : ∀ (t : TF) (n : Nat), t.all p = true → TF.get n0 t n = some c → p n0 c = true
  | .nil, n, _, h => by simp [TF.get] at h
  | .leaf g c', n, ha, h => by
    simp only [TF.get] at h
    split at h
    · rename_i hg
      cases h
      rw [beq_iff_eq] at hg
      subst hg
      exact ha
    · cases h
  | .node l r, n, ha, h => by
    simp only [TF.all, Bool.and_eq_true] at ha
    simp only [TF.get] at h
    split at h
    · exact TF.get_all l _ ha.1 h
    · exact TF.get_all r _ ha.2 h

theorem TF.fn_all {p : Nat → RFn → Bool} {t : TF} (ha : t.all p = true) (g : Nat) (c : RFn) (h : t.fn g = some c) : p g c = true := TF.get_all t g ha h

end Go.Ab
