/- Quick forms of a few operations. Under: nothing. -/
import Derived.Test.YthpnccneaaeomaaAb35
import Derived.IntWalk
namespace Go.Ab

def ikCode : IntKind → Nat
  | .i8 => 0 | .i16 => 1 | .i32 => 2 | .i64 => 3 | .u8 => 4 | .u16 => 5 | .u32 => 6 | .u64 => 7
def ikEq (k k' : IntKind) : Bool := Nat.beq (ikCode k) (ikCode k')
theorem ikEq_eq (k k' : IntKind) : ikEq k k' = decide (k = k') := by cases k <;> cases k' <;> rfl

def wrapE (k : IntKind) (n : Int) : Int := match k with
  | .i64 => (match n with
    | .ofNat m => (match Nat.blt m 9223372036854775808 with | true => .ofNat m | false => IntKind.wrap .i64 (.ofNat m))
    | n => IntKind.wrap .i64 n)
  | k => IntKind.wrap k n

theorem wrapE_eq (k : IntKind) (n : Int) : wrapE k n = k.wrap n := by
  cases k <;> try rfl
  cases n with
  | negSucc m => rfl
  | ofNat m =>
    simp only [wrapE]
    cases h : Nat.blt m 9223372036854775808 with
    | false => rfl
    | true =>
      have hm : m < 9223372036854775808 := blt_iff.1 h
      rw [IntKind.wrap_i64]
      simp only [Int.ofNat_eq_natCast]
      omega

def ltE : Int → Int → Bool
  | .ofNat m, .ofNat n => Nat.blt m n
  | .ofNat _, .negSucc _ => false
  | .negSucc _, .ofNat _ => true
  | .negSucc m, .negSucc n => Nat.blt n m

theorem ltE_iff (a b : Int) : ltE a b = true ↔ a < b := by
  cases a <;> cases b <;> simp only [ltE, blt_iff] <;> first | omega | skip
  all_goals (simp; try omega)

theorem ltE_eq (a b : Int) : ltE a b = decide (a < b) := by
  rw [Bool.eq_iff_iff, ltE_iff]; simp

def eqE : Int → Int → Bool
  | .ofNat m, .ofNat n => Nat.beq m n
  | .negSucc m, .negSucc n => Nat.beq m n
  | _, _ => false

theorem eqE_eq (a b : Int) : eqE a b = (a == b) := by
  rw [Bool.eq_iff_iff]
  cases a <;> cases b <;> simp [eqE, Nat.beq_eq] <;> omega

def opInt (op : BinOp) (k : IntKind) (a b : Int) : Option AV := match op with
  | .add => some (.pv (.int k (wrapE k (a + b))))
  | .sub => some (.pv (.int k (wrapE k (a - b))))
  | .mul => some (.pv (.int k (wrapE k (a * b))))
  | .quo => if b = 0 then none else some (.pv (.int k (wrapE k (a.tdiv b))))
  | .rem => if b = 0 then none else some (.pv (.int k (a.tmod b)))
  | .eql => some (.pv (.bool (eqE a b)))
  | .neq => some (.pv (.bool (!(eqE a b))))
  | .lss => some (.pv (.bool (ltE a b)))
  | .leq => some (.pv (.bool (!(ltE b a))))
  | .gtr => some (.pv (.bool (ltE b a)))
  | .geq => some (.pv (.bool (!(ltE a b))))
  | _ => none

def binopE (op : BinOp) (x y : AV) : Option AV := match x with
  | .pv p => (match p with
    | .int k a => (match y with
      | .pv q => (match q with
        | .int k' b => (match ikEq k k' with | true => opInt op k a b | false => none)
        | _ => none)
      | _ => none)
    | _ => binop op x y)
  | _ => binop op x y

theorem binopE_eq (op : BinOp) (x y : AV) : binopE op x y = binop op x y := by
  cases x with
  | pv p =>
    cases p with
    | int k a =>
      cases y with
      | pv q =>
        cases q with
        | int k' b =>
          simp only [binopE, binop, ikEq_eq]
          by_cases h : k = k'
          · simp only [h, decide_true, if_true]
            cases op <;> simp only [opInt, wrapE_eq, eqE_eq, ltE_eq] <;> first | rfl | skip
            · congr 3; rw [Bool.eq_iff_iff]; simp
            · congr 3; rw [Bool.eq_iff_iff]; simp
          · simp only [h, decide_false, if_false]
        | _ => cases op <;> rfl
      | _ => cases op <;> rfl
    | _ => rfl
  | _ => rfl

def scalarE : Nat → AV → AV → Option Bool
  | 0, .pv (.int k a), .pv (.int k' b) => (match ikEq k k' with | true => some (eqE a b) | false => none)
  | k, a, b => scalarEq k a b

theorem scalarE_eq (n : Nat) (a b : AV) : scalarE n a b = scalarEq n a b := by
  unfold scalarE
  split
  · rename_i k a k' b
    simp only [scalarEq, ikEq_eq, eqE_eq]
    by_cases h : k = k' <;> simp [h]
  · rfl
end Go.Ab
