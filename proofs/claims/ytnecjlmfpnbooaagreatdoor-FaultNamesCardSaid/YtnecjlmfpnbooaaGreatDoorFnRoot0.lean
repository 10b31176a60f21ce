/- FaultNames itself, by contracts. Under: nothing. -/
import Derived.Test.YtnecjlmfpnbooaaGreatDoorFnSym
namespace Go.Ab.Fn
open Go Go.Ab

abbrev E0 (Ok : Nat → List PV → Own → PV → Prop) : Env := envD noG Ok noX noT noT 0
def pA : RC := .reg [⟨(some 6), .mv (.c (.pv (.bool false))), none, 0⟩] false
def pB : RC := .seq (.reg [⟨(some 10), .call (.f 4) [], none, 0⟩, ⟨(some 11), .not (.t 10), none, 1⟩] false)
 (.cond (.t 11)
  (.seq (.reg [⟨(some 6), .mv (.c (.pv (.bool false))), none, 0⟩] false)
  (.ret))
  (.skip))
def pC : RC := .reg [⟨(some 12), .mv (.t 1), none, 0⟩,
   ⟨(some 13), .mv (.t 1), none, 0⟩,
   ⟨(some 14), .strlen (.t 13), none, 2⟩,
   ⟨(some 15), .mm false [.t 14, .c (.pv (.int .i64 (40)))], none, 6⟩,
   ⟨(some 16), .sslice (.t 12) none (some (.t 15)), none, 15⟩,
   ⟨(some 1), .mv (.t 16), none, 31⟩] false

def tB (t : T) : T := ((t.set tdepth 6 (.pv (.bool false))).set tdepth 10 (.pv (.bool true))).set tdepth 11 (.pv (.bool false))
def tC (t : T) (s s' : List UInt8) (m : Int) : T := (((((t.set tdepth 12 (.pv (.str s))).set tdepth 13 (.pv (.str s))).set tdepth 14 (.pv (.int .i64 s.length))).set tdepth 15 (.pv (.int .i64 m))).set tdepth 16 (.pv (.str s'))).set tdepth 1 (.pv (.str s'))

theorem L1 {Ok : Nat → List PV → Own → PV → Prop} {rest : RC} {Q : Ex → St → Prop} {a b c : PV} (h4 : Ok 4 [] [] (.bool true))
    (h : aw noG Ok rest true (E0 Ok) Q ⟨tB (argsT 0 [.pv a, .pv b, .pv c] .nil), [], 12, 58⟩) : aw noG Ok (.seq pA (.seq pB rest)) true (E0 Ok) Q ⟨argsT 0 [.pv a, .pv b, .pv c] .nil, [], 0, 58⟩ := by
  conv => whnf
  refine ⟨_, _, h4, ?_⟩
  conv => whnf
  exact h

theorem L2 {Ok : Nat → List PV → Own → PV → Prop} {rest : RC} {Q : Ex → St → Prop} {tm : T} {s : List UInt8} (h1 : tm.get tdepth 1 = .pv (.str s))
    (h : ∀ s' m, aw noG Ok rest true (E0 Ok) Q ⟨tC tm s s' m, [], 36, 58⟩) : aw noG Ok (.seq pC rest) true (E0 Ok) Q ⟨tm, [], 12, 58⟩ := by
  let m : Int := if (40 : Int) < s.length then 40 else s.length
  have hm : 0 ≤ m ∧ m ≤ s.length := by
    show 0 ≤ (if (40 : Int) < s.length then (40 : Int) else s.length) ∧ (if (40 : Int) < s.length then (40 : Int) else s.length) ≤ s.length
    split <;> omega
  simp only [pC, aw, forceN_eq]
  refine opsS_step (e := { v := .pv (.str s) }) rfl (by intro f args e; cases e) (by simp [step, Eff.of, St.ev, h1]) ?_
  refine opsS_step (e := { v := .pv (.str s) }) rfl (by intro f args e; cases e) (by simp [step, Eff.of, St.ev, putW, get_set_if, h1]) ?_
  refine opsS_step (e := { v := .pv (.int .i64 s.length) }) rfl (by intro f args e; cases e) (by simp [step, Eff.of, St.ev, putW, get_set_if]) ?_
  refine opsS_step (e := { v := .pv (.int .i64 m) }) rfl (by intro f args e; cases e) (by simp [step, Eff.of, St.ev, putW, get_set_if, mmF, mm2, m]) ?_
  refine opsS_step (e := { v := .pv (.str ((s.take m.toNat).drop 0)) }) rfl (by intro f args e; cases e) (by simp [step, Eff.of, St.ev, putW, get_set_if, optIdx, idxOf, hm.1, hm.2]) ?_
  refine opsS_step (e := { v := .pv (.str ((s.take m.toNat).drop 0)) }) rfl (by intro f args e; cases e) (by simp [step, Eff.of, St.ev, putW, get_set_if]) ?_
  simp only [opsS_nil, Ex.then, putW, upAll]
  exact h _ _
end Go.Ab.Fn
