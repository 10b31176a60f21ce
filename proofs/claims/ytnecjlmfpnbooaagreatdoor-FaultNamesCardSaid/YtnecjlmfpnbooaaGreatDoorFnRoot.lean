/- FaultNames, by contracts. Under: nothing. -/
import Derived.Test.YtnecjlmfpnbooaaGreatDoorFnRoot0
import Derived.KernelRfl
namespace Go.Ab.Fn
open Go Go.Ab

theorem iaddr_at {σ : Store} {nm : Nat} {ev : RA → AV} {x i : RA} {rows : List (List PV)} {j : Int} {r : List PV} (hx : ev x = .pv (.sl 1 rows)) (hi : ev i = .pv (.int .i64 j)) (h0 : 0 ≤ j) (hr : rows[j.toNat]? = some r) :
    step σ nm ev (.iaddr 1 x i) = some { v := .pv (.ref r) } := by
  simp [step, step.iaddrP, Eff.of, hx, hi, idxOf, h0, hr]
theorem stuckStep {o : Option Eff} {e : Eff} {K : Eff → Prop} (h : o = some e) (hK : K e) : (match (generalizing := false) o with | some e => K e | none => False) := by subst h; exact hK
theorem wrap_u8 {k : Int} (hk : 0 ≤ k ∧ k < 256) : IntKind.i64.wrap k = k := by
  have h1 : k % (2 ^ 64 : Int) = k := by omega
  have h2 : decide (k ≥ (2 ^ 63 : Int)) = false := by simp; omega
  show (if (true && decide (k % (2 ^ 64 : Int) ≥ (2 ^ 63 : Int))) = true then k % (2 ^ 64 : Int) - (2 ^ 64 : Int) else k % (2 ^ 64 : Int)) = k
  simp only [h1, h2, Bool.and_false, Bool.false_eq_true, if_false]
theorem row_at {j : Int} (h : 0 ≤ j ∧ j < 23) : ∃ c, rowsL[j.toNat]? = some [.str c] := by
  have e : rowsL = names.map fun c => [PV.str c] := rfl
  rw [e]
  have hl : j.toNat < names.length := by
    have : names.length = 23 := rfl
    omega
  exact ⟨names[j.toNat], by simp [hl]⟩

attribute [local irreducible] compat

set_option maxHeartbeats 1000000 in
set_option maxRecDepth 100000 in
theorem root (Ok : Nat → List PV → Own → PV → Prop) (e k : Int) (s : List UInt8) (hk : 0 ≤ k ∧ k < 256) (h4 : Ok 4 [] [] (.bool true)) (h7 : Ok 7 [] [] namesL)
    (hN : ∀ e, ∃ r, Ok 5 [.int .i64 e] [] (.str r) ∧ Ok 6 [.int .i64 e] [] (.str r)) (hO : ∀ s, ∃ r, Ok 8 [.str s] [] (.int .i64 r) ∧ Ok 9 [.str s] [] (.int .i64 r)) :
    fnW noG Ok noX noT noT 0 c3 [.int .i64 e, .str s, .int .u8 k] (.bool true) := by
  simp only [fnW, argsK_eq]
  change aw noG Ok (.seq pA (.seq pB (.seq pC _))) true (E0 Ok) _ ⟨argsT 0 [.pv _, .pv _, .pv _] .nil, [], 0, 58⟩
  refine L1 h4 ?_
  refine L2 (s := s) (by rfl) fun s' m => ?_
  conv => whnf
  intro X hX
  refine hX _ ?_
  conv => whnf
  obtain ⟨r1, a1, b1⟩ := hN e
  refine ⟨_, _, a1, ?_⟩
  conv => whnf
  refine ⟨_, _, b1, ?_⟩
  conv => whnf
  refine stuckF (by simp) ?_
  conv => whnf
  refine hX _ ?_
  conv => whnf
  obtain ⟨r2, a2, b2⟩ := hN (IntKind.wrap .i64 (k.tmod 50))
  refine ⟨_, _, a2, ?_⟩
  conv => whnf
  refine ⟨_, _, b2, ?_⟩
  conv => whnf
  refine stuckF (by simp) ?_
  conv => whnf
  refine hX _ ?_
  conv => whnf
  refine ⟨_, _, h7, ?_⟩
  conv => whnf
  obtain ⟨r3, a3, b3⟩ := hO s'
  refine ⟨_, _, a3, ?_⟩
  conv => whnf
  refine ⟨_, _, b3, ?_⟩
  conv => whnf
  clear hX
  cases hb : (r3 == r3)
  · simp at hb
  conv => whnf
  have hj : 0 ≤ (IntKind.i64.wrap k).tmod (rowsL.length : Int) ∧ (IntKind.i64.wrap k).tmod (rowsL.length : Int) < 23 := by
    rw [wrap_u8 hk, show (rowsL.length : Int) = 23 from rfl]
    exact ⟨Int.tmod_nonneg _ hk.1, Int.tmod_lt_of_pos _ (by decide)⟩
  obtain ⟨c, hc⟩ := row_at hj
  refine stuckStep (iaddr_at (rows := rowsL) (j := (IntKind.i64.wrap k).tmod (rowsL.length : Int)) rfl rfl hj.1 hc) ?_
  conv => whnf
  obtain ⟨r4, a4, b4⟩ := hO c
  refine ⟨_, _, a4, ?_⟩
  conv => whnf
  refine stuckStep (iaddr_at (rows := rowsL) (j := (IntKind.i64.wrap k).tmod (rowsL.length : Int)) rfl rfl hj.1 hc) ?_
  conv => whnf
  refine ⟨_, _, b4, ?_⟩
  conv => whnf
  refine stuckT (by kernel_rfl) ?_
  conv => whnf
  simp
end Go.Ab.Fn
