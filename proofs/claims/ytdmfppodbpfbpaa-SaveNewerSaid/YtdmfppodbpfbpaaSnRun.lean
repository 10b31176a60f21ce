/- SaveNewer's contract. Under: nothing. -/
import Derived.Test.YtdmfppodbpfbpaaSnTab
import Derived.Test.YtdmfppodbpfbpaaChecked
import Derived.KernelRfl
namespace Go.Ab.Sn
open Go Go.Ab Go.Proofs
def noG : Nat → Option (List PV) := fun _ => none
def noX : Nat → Option RunI := fun _ => none
def noT : Nat → Option RFn := fun _ => none

/-- An object. -/
def obj (k : Int) (e : Bool) (n : Int) (s : List UInt8) (ref off len : Int) : PV := .agg [.int .i64 k, .bool e, .int .i64 n, .str s, .int .i64 ref, .int .i64 off, .int .i64 len]

def comp (k : Int) : Bool := k == 6 || (k == 7 || (k == 8 || (k == 9 || k == 11)))

section
variable (Ok : Nat → List PV → Own → PV → Prop) (k n ref off len m : Int) (e : Bool) (s : List UInt8)

theorem t45 : fnW noG Ok noX noT noT 0 c45 [obj k e n s ref off len] (.bool (comp k)) := by
  unfold comp
  conv => whnf
  cases h6 : (k == 6)
  · conv => whnf
    cases h7 : (k == 7)
    · conv => whnf
      cases h8 : (k == 8)
      · conv => whnf
        cases h9 : (k == 9)
        · conv => whnf
          cases h11 : (k == 11)
          · conv => whnf
            rfl
          · conv => whnf
            rfl
        · conv => whnf
          rfl
      · conv => whnf
        rfl
    · conv => whnf
      rfl
  · conv => whnf
    rfl

theorem t8 : fnW noG Ok noX noT noT 0 c8 [obj k e n s ref off len, .int .i64 m] (.bool (comp k && decide (ref ≥ m))) := by
  unfold comp
  conv => whnf
  cases h6 : (k == 6)
  · conv => whnf
    cases h7 : (k == 7)
    · conv => whnf
      cases h8 : (k == 8)
      · conv => whnf
        cases h9 : (k == 9)
        · conv => whnf
          cases h11 : (k == 11)
          · conv => whnf
            rfl
          · conv => whnf
            rfl
        · conv => whnf
          rfl
      · conv => whnf
        rfl
    · conv => whnf
      rfl
  · conv => whnf
    rfl

theorem t9 (h45 : Ok 45 [obj k e n s ref off len] [] (.bool (comp k))) : fnW noG Ok noX noT noT 0 c9 [obj k e n s ref off len, .int .i64 m] (.bool (comp k && decide (ref ≥ m))) := by
  conv => whnf
  refine ⟨_, _, h45, ?_⟩
  conv => whnf
  cases hc : comp k
  · conv => whnf
    rfl
  · conv => whnf
    rfl

theorem t3 (h7 : Ok 7 [] [] (.bool true)) (h8 : Ok 8 [obj k e n s ref off len, .int .i64 m] [] (.bool (comp k && decide (ref ≥ m)))) (h9 : Ok 9 [obj k e n s ref off len, .int .i64 m] [] (.bool (comp k && decide (ref ≥ m)))) :
    fnW noG Ok noX noT noT 0 c3 [obj k e n s ref off len, .int .i64 m] (.bool true) := by
  conv => whnf
  refine ⟨_, _, h7, ?_⟩
  conv => whnf
  refine ⟨_, _, h8, ?_⟩
  conv => whnf
  refine ⟨_, _, h9, ?_⟩
  conv => whnf
  simp
end
end Go.Ab.Sn
