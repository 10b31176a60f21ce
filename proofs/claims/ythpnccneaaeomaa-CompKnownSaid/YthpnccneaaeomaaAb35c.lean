/- Temporaries, by their ways. Under: nothing. -/
import Derived.Test.YthpnccneaaeomaaAb35b
namespace Go.Ab

inductive Way where
  | here
  | lft (p : Way)
  | rgt (p : Way)

def way : Nat → Nat → Way
  | 0, _ => .here
  | d + 1, n => match n % 2 with
    | 0 => .lft (way d (n / 2))
    | _ => .rgt (way d (n / 2))

def leafV (t : T) : AV := match t with | .leaf v => v | _ => .undef

noncomputable def getP (p : Way) : T → AV := Way.rec (motive := fun _ => T → AV) (fun t => leafV t) (fun _ ih t => ih t.l) (fun _ ih t => ih t.r) p

noncomputable def setP (v : AV) (p : Way) : T → T := Way.rec (motive := fun _ => T → T) (fun _ => .leaf v) (fun _ ih t => .node (ih t.l) t.r) (fun _ ih t => .node t.l (ih t.r)) p

theorem getP_eq : ∀ (d : Nat) (t : T) (n : Nat), getP (way d n) t = T.get d t n
  | 0, t, n => by cases t <;> rfl
  | d + 1, t, n => by
    have hl : ∀ (t : T), T.get (d + 1) t n = match n % 2 with | 0 => T.get d t.l (n / 2) | _ => T.get d t.r (n / 2) := by
      intro t
      cases t with
      | node l r => rfl
      | nil => simp only [T.l, T.r, T.get]; split <;> (cases d <;> rfl)
      | leaf x => simp only [T.l, T.r, T.get]; split <;> (cases d <;> rfl)
    rw [hl]
    simp only [way]
    rcases Nat.mod_two_eq_zero_or_one n with h | h <;> simp only [h]
    · exact getP_eq d _ _
    · exact getP_eq d _ _

theorem setP_eq (v : AV) : ∀ (d : Nat) (t : T) (n : Nat), setP v (way d n) t = T.set d t n v
  | 0, t, n => rfl
  | d + 1, t, n => by
    simp only [way, T.set]
    rcases Nat.mod_two_eq_zero_or_one n with h | h <;> simp only [h]
    · show T.node (setP v (way d (n / 2)) t.l) t.r = _
      rw [setP_eq v d]
    · show T.node t.l (setP v (way d (n / 2)) t.r) = _
      rw [setP_eq v d]

noncomputable def tget10 (t : T) (n : Nat) : AV := getP (way 10 n) t
noncomputable def tset10 (t : T) (n : Nat) (v : AV) : T := setP v (way 10 n) t
theorem tget_eq (t : T) (n : Nat) : tget10 t n = T.get tdepth t n := getP_eq 10 t n
theorem tset_eq (t : T) (n : Nat) (v : AV) : tset10 t n v = T.set tdepth t n v := setP_eq v 10 t n

/-- What an operand holds. -/
noncomputable def evE (G : Gl) (st : St) : RA → AV
  | .t n => tget10 st.tm n
  | .c v => v
  | .f g => .func (.func g) [] []
  | .g i => match G i with | some cs => .pv (.ref cs) | none => .undef

theorem evE_eq (G : Gl) (st : St) : evE G st = St.ev G st := by
  funext r
  cases r with
  | t n => exact tget_eq _ _
  | c v => rfl
  | f g => rfl
  | g i => rfl
end Go.Ab
