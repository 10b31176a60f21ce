/- For every object and every number of cells, SaveNewer of the package chaselaw19 returns true: Newer agrees with the definition.
Conditions: none; the statement is the given one. -/
import Derived.Test.YtdmfppodbpfbpaaAb40
import Derived.Test.YtdmfppodbpfbpaaSnRun
import Derived.Test.YtdmfppodbpfbpaaRows
import Derived.OpenShut
namespace Go.Proofs.Ytdmfppodbpfbpaa.saveNewer
open Go.ChangeShapes Go.WideShapes Go.ChangeAt Go.RowKit Go.Ab Go.Ab.Sn

theorem own : ownKnob Try.prog.godebug = none := by kernel_rfl
theorem mixed : Try.prog.follows .mixedOrders = true := by kernel_rfl
theorem allC : tabC.all (chkFn Try.prog) = true := by kernel_rfl
theorem allN : tabN.all (chkFn Try.prog) = true := by kernel_rfl
theorem allR : tabR.all (chkItr Try.prog) = true := by kernel_rfl
theorem k15 : chkFn Try.prog 15 (cloneC 7 64 [.pv (.int .i64 (0)), .pv (.bool false), .pv (.int .i64 (0)), .pv (.str []), .pv (.int .i64 (0)), .pv (.int .i64 (0)), .pv (.int .i64 (0))]) = true := by kernel_rfl
theorem extOk : InlOk Try.prog noG fun g => (ext g).map extH := by
  intro g h hg
  cases hb : Nat.beq g 15 with
  | true =>
    have := Nat.eq_of_beq_eq_true hb
    subst this
    cases hg
    exact clone_ok mixed k15
  | false =>
    have : ext g = none := by unfold ext; rw [hb]
    simp only [this] at hg
    cases hg
def isT : Option PV → Bool | some (.bool b) => b | _ => false
theorem isT_spec {o : Option PV} (h : isT o = true) : o = some (.bool true) := by
  unfold isT at h
  split at h
  · subst h; rfl
  · cases h
theorem run7 : isT ((envE noG ext tabN.fn tabR.fn tabC.fn 10000 14).call 7 []) = true := by kernel_rfl
theorem ok7 : OkC Try.prog noG 7 [] [] (.bool true) := ok_of_run mixed extOk (TF.fn_all allN) (TF.fn_all allR) (TF.fn_all allC) (isT_spec run7)
theorem noExt : InlOk Try.prog noG fun g => (noX g).map extH := fun _ _ h => by cases h

theorem fnC {g : Nat} {c : RFn} (h : tabC.fn g = some c) : chkFn Try.prog g c = true := TF.fn_all allC g c h
theorem toOk {g : Nat} {c : RFn} {ps : List PV} {r : PV} (hc : tabC.fn g = some c) (hl : ps.length = c.nparams) (h : fnW noG (OkC Try.prog noG) noX noT noT 0 c ps r) : OkC Try.prog noG g ps [] r :=
  ok_of_fnW mixed (fnC hc) noExt (fun _ _ h => by cases h) (fun _ _ h => by cases h) hl h

section
variable (k n ref off len m : Int) (e : Bool) (s : List UInt8)
theorem ok45 : OkC Try.prog noG 45 [obj k e n s ref off len] [] (.bool (comp k)) := toOk (c := c45) rfl rfl (t45 _ k n ref off len e s)
theorem ok8 : OkC Try.prog noG 8 [obj k e n s ref off len, .int .i64 m] [] (.bool (comp k && decide (ref ≥ m))) := toOk (c := c8) rfl rfl (t8 _ k n ref off len m e s)
theorem ok9 : OkC Try.prog noG 9 [obj k e n s ref off len, .int .i64 m] [] (.bool (comp k && decide (ref ≥ m))) := toOk (c := c9) rfl rfl (t9 _ k n ref off len m e s (ok45 k n ref off len e s))
theorem ok3 : OkC Try.prog noG 3 [obj k e n s ref off len, .int .i64 m] [] (.bool true) := toOk (c := c3) rfl rfl (t3 _ k n ref off len m e s ok7 (ok8 k n ref off len m e s) (ok9 k n ref off len m e s))
end

def tys : List (Bool × List Ty) := [(true, [.int .i64, .bool, .int .i64, .str, .int .i64, .int .i64, .int .i64]), (false, [.int .i64])]

theorem law (ps : List PV) (h : ArgsHave tys ps) : OkC Try.prog noG 3 ps [] (.bool true) := by
  unfold tys at h
  cases h with
  | cons h1 h =>
    cases h with
    | cons h2 h =>
      cases h
      obtain ⟨qs, e1, l1, g1⟩ := h1
      obtain ⟨qs', e2, l2, g2⟩ := h2
      simp only [cellsIs] at e1 e2
      subst e1
      subst e2
      simp only [List.length_cons, List.length_nil] at l1
      match qs, l1 with
      | [a0, a1, a2, a3, a4, a5, a6], _ =>
        have h0 := g1 0 a0 _ rfl rfl
        have h1 := g1 1 a1 _ rfl rfl
        have h2 := g1 2 a2 _ rfl rfl
        have h3 := g1 3 a3 _ rfl rfl
        have h4 := g1 4 a4 _ rfl rfl
        have h5 := g1 5 a5 _ rfl rfl
        have h6 := g1 6 a6 _ rfl rfl
        have h7 := g2 0 _ _ rfl rfl
        cases h0; cases h1; cases h2; cases h3; cases h4; cases h5; cases h6; cases h7
        exact ok3 _ _ _ _ _ _ _ _

theorem globs (W : World) : GlobOk noG W (Iall W) := fun _ _ h => by cases h

set_option maxRecDepth 100000 in
theorem lifted (os : Os) (started : os.Started) (H : Type) (enc : TypeId × Value → H) :
    ReturnsInHanded {} Try.checked os 3 .any (Rows.saveNewerSpec.pre6 enc Try.prog Try.f3 Rows.saveNewerRow.domain false) (Rows.saveNewerSpec.post enc Try.prog Try.f3 false true false false) := by
  refine returnsInHanded_of_change (C := Try.checked) own started (by kernel_rfl) Try.func3
    (ChangeSpec.witness6 (enc := enc) (C := Try.checked) false ⟨#[], #[.agg #[.int .i64 0, .bool false, .int .i64 0, .string ⟨#[]⟩, .int .i64 0, .int .i64 0, .int .i64 0], .int .i64 0], []⟩ 8 (by kernel_rfl) (by kernel_rfl) (by kernel_rfl) (by kernel_rfl)) ?_
  intro W base args ds gs before hval hW _ _
  exact law_calls (P := Try.prog) (tb := 4) (tys := tys) (G := noG) (by kernel_rfl) (by kernel_rfl) (by kernel_rfl) rfl rfl Try.underlying4
    (fun ds hds => by match ds, hds with | [d1, d2], _ => rfl) hval hW (globs W) law

theorem over : Rows.saveNewerRow.holds Try.pinned (OpenSpec.ofChange Rows.saveNewerSpec) :=
  OpenClaim.holds_of_wide 3 Try.f3 rfl rfl rfl rfl rfl rfl rfl ⟨rfl, rfl, rfl, rfl, rfl⟩ rfl rfl rfl rfl rfl (by kernel_rfl) Try.func3 (by kernel_rfl)
    (of_decide_eq_true (by kernel_rfl)) (by unfold Func.isWrapper; first | (rw [if_pos (by decide +kernel)]; kernel_rfl) | (rw [if_neg (by decide +kernel)]; exact ⟨rfl, rfl⟩))
    (fun os started H enc _ => lifted os started H enc)

theorem proved : Rows.SaveNewerSaid := over
end Go.Proofs.Ytdmfppodbpfbpaa.saveNewer
