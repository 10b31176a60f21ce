/- The run of CompKnown gives true, and is a contract. Under: nothing. -/
import Derived.Test.YthpnccneaaeomaaCkTab
import Derived.Test.YthpnccneaaeomaaAb42
import Derived.Test.YthpnccneaaeomaaCkShelf
import Derived.KernelRfl
namespace Go.Ab.Ck
open Go Go.Ab Go.Proofs
/-- internal/bytealg.MaxLen holds some int. -/
def mG (m : Int) : Gl := ⟨fun i => match i with | 0 => some [.int .i64 m] | _ => none, fun _ => none⟩
def isT : Option (Own × PV) → Bool | some ([], .bool b) => b | _ => false
theorem mixed : Try.prog.follows .mixedOrders = true := by kernel_rfl
theorem allC : tabC.all (chkFn Try.prog) = true := by kernel_rfl
theorem allN : tabN.all (chkFn Try.prog) = true := by kernel_rfl
theorem allO : tabO.all (chkFn Try.prog) = true := by kernel_rfl
theorem allR : tabR.all (chkItr Try.prog) = true := by kernel_rfl
theorem chk106 : chkFn Try.prog 106 c106 = true := by kernel_rfl
theorem extOk (m : Int) : InlOk Try.prog (mG m) fun g => (ext g).map extH := by
  intro g h hg
  cases hg
theorem isT_spec {o : Option (Own × PV)} (h : isT o = true) : o = some ([], .bool true) := by
  unfold isT at h
  split at h
  · subst h; rfl
  · cases h
def kn0 (g : Nat) (ps : List PV) : Option PV := match Nat.beq g 106 with
  | true => (match ps with
    | [.str s, .str t] => (match Nat.blt s.length 4294967281 with | true => some (.int .i64 (idxK t 0 s)) | false => none)
    | _ => none)
  | false => none
theorem knOk0 (m : Int) : ∀ g ps r, kn0 g ps = some r → OkC Try.prog (mG m) g ps [] r := by
  intro g ps r h
  unfold kn0 at h
  split at h
  · rename_i hb
    have := Nat.eq_of_beq_eq_true hb
    subst this
    split at h
    · rename_i s t
      split at h
      · rename_i hl
        cases h
        exact index_ok (i := 0) (m := m) chk106 rfl (fun s t w hs hm => Go.Proofs.Try.strings_Index s t m w hs hm) (by rw [Nat.blt_eq] at hl; exact hl)
      · cases h
    · cases h
  · cases h
theorem run16 (m : Int) : isT ((envE (mG m) kn0 ext tabN.fn tabR.fn tabC.fn tabO.fn 10000 20).call 16 []) = true := by kernel_rfl
theorem ok16 (m : Int) : OkC Try.prog (mG m) 16 [] [] (.bool true) := ok_of_run mixed (knOk0 m) (extOk m) (TF.fn_all allN) (TF.fn_all allR) (TF.fn_all allC) (TF.fn_all allO) (isT_spec (run16 m))
def kn1 : Nat → List PV → Option PV := fun g ps => match Nat.beq g 16, ps with | true, [] => some (.bool true) | _, _ => kn0 g ps
theorem knOk1 (m : Int) : ∀ g ps r, kn1 g ps = some r → OkC Try.prog (mG m) g ps [] r := by
  intro g ps r h
  unfold kn1 at h
  split at h
  · rename_i hb
    have := Nat.eq_of_beq_eq_true hb
    subst this
    cases h
    exact ok16 m
  · exact knOk0 m _ _ r h
end Go.Ab.Ck
