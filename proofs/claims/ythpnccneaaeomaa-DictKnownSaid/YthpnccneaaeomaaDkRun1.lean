/- The run of DictKnown gives true, and is a contract. Under: nothing. -/
import Derived.Test.YthpnccneaaeomaaDkTab
import Derived.Test.YthpnccneaaeomaaChecked
import Derived.KernelRfl
namespace Go.Ab.Dk
open Go Go.Ab Go.Proofs
def isT : Option (Own × PV) → Bool | some ([], .bool b) => b | _ => false
theorem mixed : Try.prog.follows .mixedOrders = true := by kernel_rfl
theorem allC : tabC.all (chkFn Try.prog) = true := by kernel_rfl
theorem allN : tabN.all (chkFn Try.prog) = true := by kernel_rfl
theorem allO : tabO.all (chkFn Try.prog) = true := by kernel_rfl
theorem allR : tabR.all (chkItr Try.prog) = true := by kernel_rfl
theorem k114 : chkFn Try.prog 114 (cloneC 7 64 [.pv (.int .i64 (0)), .pv (.bool false), .pv (.int .i64 (0)), .pv (.str []), .pv (.int .i64 (0)), .pv (.int .i64 (0)), .pv (.int .i64 (0))]) = true := by kernel_rfl
theorem d113 : chkFn Try.prog 113 (deleteC 7 64 [.int .i64 (0), .bool false, .int .i64 (0), .str [], .int .i64 (0), .int .i64 (0), .int .i64 (0)]) = true := by kernel_rfl
theorem primOk : ∀ g p, noG.prim g = some p → PrimOk1 Try.prog g p := by
  intro g p hg
  simp only [noG] at hg
  cases hb113 : Nat.beq g 113 with
  | true =>
    have := Nat.eq_of_beq_eq_true hb113
    subst this
    cases hg
    exact delete_ok mixed d113
  | false =>
    simp only [hb113] at hg
    cases hg
theorem extOk : InlOk Try.prog noG fun g => (ext g).map extH := by
  intro g h hg
  cases hb114 : Nat.beq g 114 with
  | true =>
    have := Nat.eq_of_beq_eq_true hb114
    subst this
    cases hg
    exact clone_ok mixed k114
  | false =>
    have hx : ext g = none := by unfold ext; simp only [hb114]
    simp only [hx] at hg
    cases hg
theorem isT_spec {o : Option (Own × PV)} (h : isT o = true) : o = some ([], .bool true) := by
  unfold isT at h
  split at h
  · subst h; rfl
  · cases h
def kn0 : Nat → List PV → Option PV := fun _ _ => none
theorem knOk0 : ∀ g ps r, kn0 g ps = some r → OkC Try.prog noG g ps [] r := fun _ _ _ h => by cases h
theorem run5 : isT ((envE noG kn0 ext tabN.fn tabR.fn tabC.fn tabO.fn 10000 20).call 5 []) = true := by kernel_rfl
theorem ok5 : OkC Try.prog noG 5 [] [] (.bool true) := ok_of_run mixed knOk0 extOk (TF.fn_all allN) (TF.fn_all allR) (TF.fn_all allC) (TF.fn_all allO) (isT_spec run5)
def kn1 : Nat → List PV → Option PV := fun g ps => match Nat.beq g 5, ps with | true, [] => some (.bool true) | _, _ => kn0 g ps
theorem knOk1 : ∀ g ps r, kn1 g ps = some r → OkC Try.prog noG g ps [] r := by
  intro g ps r h
  unfold kn1 at h
  split at h
  · rename_i hb
    have := Nat.eq_of_beq_eq_true hb
    subst this
    cases h
    exact ok5
  · exact knOk0 _ _ r h
end Go.Ab.Dk
