/- Name and Of of both sides, where the number or the string is none of the list. Under: nothing. -/
import Derived.Test.YtnecjlmfpnbooaaGreatDoorFnKn
namespace Go.Ab.Fn
open Go Go.Ab
theorem stuckF {A B : Prop} {b : Bool} (hb : b = false) (h : B) : (match (generalizing := false) b with | true => A | false => B) := by subst hb; exact h
theorem stuckT {A B : Prop} {b : Bool} (hb : b = true) (h : A) : (match (generalizing := false) b with | true => A | false => B) := by subst hb; exact h
def noX : Nat → Option RunI := fun _ => none
def noT : Nat → Option RFn := fun _ => none
def names : List (List UInt8) := [[115, 116, 97, 99, 107, 117, 110, 100, 101, 114, 102, 108, 111, 119], [115, 116, 97, 99, 107, 111, 118, 101, 114, 102, 108, 111, 119], [116, 121, 112, 101, 99, 104, 101, 99, 107], [114, 97, 110, 103, 101, 99, 104, 101, 99, 107], [117, 110, 100, 101, 102, 105, 110, 101, 100], [117, 110, 100, 101, 102, 105, 110, 101, 100, 114, 101, 115, 117, 108, 116], [108, 105, 109, 105, 116, 99, 104, 101, 99, 107], [86, 77, 101, 114, 114, 111, 114], [100, 105, 99, 116, 115, 116, 97, 99, 107, 117, 110, 100, 101, 114, 102, 108, 111, 119], [100, 105, 99, 116, 115, 116, 97, 99, 107, 111, 118, 101, 114, 102, 108, 111, 119], [100, 105, 99, 116, 102, 117, 108, 108], [105, 110, 118, 97, 108, 105, 100, 97, 99, 99, 101, 115, 115], [117, 110, 109, 97, 116, 99, 104, 101, 100, 109, 97, 114, 107], [105, 110, 118, 97, 108, 105, 100, 101, 120, 105, 116], [105, 110, 118, 97, 108, 105, 100, 114, 101, 115, 116, 111, 114, 101], [101, 120, 101, 99, 115, 116, 97, 99, 107, 111, 118, 101, 114, 102, 108, 111, 119], [105, 111, 101, 114, 114, 111, 114], [115, 121, 110, 116, 97, 120, 101, 114, 114, 111, 114], [110, 111, 99, 117, 114, 114, 101, 110, 116, 112, 111, 105, 110, 116], [105, 110, 118, 97, 108, 105, 100, 102, 111, 110, 116], [117, 110, 100, 101, 102, 105, 110, 101, 100, 114, 101, 115, 111, 117, 114, 99, 101], [99, 111, 110, 102, 105, 103, 117, 114, 97, 116, 105, 111, 110, 101, 114, 114, 111, 114], [116, 105, 109, 101, 111, 117, 116]]
def namesV : PV := .agg [.str [115, 116, 97, 99, 107, 117, 110, 100, 101, 114, 102, 108, 111, 119], .str [115, 116, 97, 99, 107, 111, 118, 101, 114, 102, 108, 111, 119], .str [116, 121, 112, 101, 99, 104, 101, 99, 107], .str [114, 97, 110, 103, 101, 99, 104, 101, 99, 107], .str [117, 110, 100, 101, 102, 105, 110, 101, 100], .str [117, 110, 100, 101, 102, 105, 110, 101, 100, 114, 101, 115, 117, 108, 116], .str [108, 105, 109, 105, 116, 99, 104, 101, 99, 107], .str [86, 77, 101, 114, 114, 111, 114], .str [100, 105, 99, 116, 115, 116, 97, 99, 107, 117, 110, 100, 101, 114, 102, 108, 111, 119], .str [100, 105, 99, 116, 115, 116, 97, 99, 107, 111, 118, 101, 114, 102, 108, 111, 119], .str [100, 105, 99, 116, 102, 117, 108, 108], .str [105, 110, 118, 97, 108, 105, 100, 97, 99, 99, 101, 115, 115], .str [117, 110, 109, 97, 116, 99, 104, 101, 100, 109, 97, 114, 107], .str [105, 110, 118, 97, 108, 105, 100, 101, 120, 105, 116], .str [105, 110, 118, 97, 108, 105, 100, 114, 101, 115, 116, 111, 114, 101], .str [101, 120, 101, 99, 115, 116, 97, 99, 107, 111, 118, 101, 114, 102, 108, 111, 119], .str [105, 111, 101, 114, 114, 111, 114], .str [115, 121, 110, 116, 97, 120, 101, 114, 114, 111, 114], .str [110, 111, 99, 117, 114, 114, 101, 110, 116, 112, 111, 105, 110, 116], .str [105, 110, 118, 97, 108, 105, 100, 102, 111, 110, 116], .str [117, 110, 100, 101, 102, 105, 110, 101, 100, 114, 101, 115, 111, 117, 114, 99, 101], .str [99, 111, 110, 102, 105, 103, 117, 114, 97, 116, 105, 111, 110, 101, 114, 114, 111, 114], .str [116, 105, 109, 101, 111, 117, 116]]
def rowsL : List (List PV) := [[.str [115, 116, 97, 99, 107, 117, 110, 100, 101, 114, 102, 108, 111, 119]], [.str [115, 116, 97, 99, 107, 111, 118, 101, 114, 102, 108, 111, 119]], [.str [116, 121, 112, 101, 99, 104, 101, 99, 107]], [.str [114, 97, 110, 103, 101, 99, 104, 101, 99, 107]], [.str [117, 110, 100, 101, 102, 105, 110, 101, 100]], [.str [117, 110, 100, 101, 102, 105, 110, 101, 100, 114, 101, 115, 117, 108, 116]], [.str [108, 105, 109, 105, 116, 99, 104, 101, 99, 107]], [.str [86, 77, 101, 114, 114, 111, 114]], [.str [100, 105, 99, 116, 115, 116, 97, 99, 107, 117, 110, 100, 101, 114, 102, 108, 111, 119]], [.str [100, 105, 99, 116, 115, 116, 97, 99, 107, 111, 118, 101, 114, 102, 108, 111, 119]], [.str [100, 105, 99, 116, 102, 117, 108, 108]], [.str [105, 110, 118, 97, 108, 105, 100, 97, 99, 99, 101, 115, 115]], [.str [117, 110, 109, 97, 116, 99, 104, 101, 100, 109, 97, 114, 107]], [.str [105, 110, 118, 97, 108, 105, 100, 101, 120, 105, 116]], [.str [105, 110, 118, 97, 108, 105, 100, 114, 101, 115, 116, 111, 114, 101]], [.str [101, 120, 101, 99, 115, 116, 97, 99, 107, 111, 118, 101, 114, 102, 108, 111, 119]], [.str [105, 111, 101, 114, 114, 111, 114]], [.str [115, 121, 110, 116, 97, 120, 101, 114, 114, 111, 114]], [.str [110, 111, 99, 117, 114, 114, 101, 110, 116, 112, 111, 105, 110, 116]], [.str [105, 110, 118, 97, 108, 105, 100, 102, 111, 110, 116]], [.str [117, 110, 100, 101, 102, 105, 110, 101, 100, 114, 101, 115, 111, 117, 114, 99, 101]], [.str [99, 111, 110, 102, 105, 103, 117, 114, 97, 116, 105, 111, 110, 101, 114, 114, 111, 114]], [.str [116, 105, 109, 101, 111, 117, 116]]]
def namesL : PV := .sl 1 rowsL
theorem nameOut (Ok : Nat → List PV → Own → PV → Prop) (e : Int) (h : e < 20 ∨ 42 < e) : fnW noG Ok noX noT noT 0 c5 [.int .i64 e] (.str []) := by
  conv => whnf
  cases h1 : decide (e < 20)
  · conv => whnf
    cases h2 : decide (e > 42)
    · exfalso
      simp at h1 h2
      omega
    · conv => whnf
  · conv => whnf
theorem ofOut (Ok : Nat → List PV → Own → PV → Prop) (s : List UInt8) (h27 : Ok 19 [] [] namesV) (hn : ∀ c ∈ names, s ≠ c) : fnW noG Ok noX noT noT 0 c8 [.str s] (.int .i64 0) := by
  have hn' : ∀ c ∈ names, (c == s) = false := fun c hc => beq_eq_false_iff_ne.2 fun he => hn c hc he.symm
  conv => whnf
  refine ⟨_, _, h27, ?_⟩
  conv => whnf
  intro X hX
  refine hX _ ?_
  conv => whnf
  refine stuckF (hn' [115, 116, 97, 99, 107, 117, 110, 100, 101, 114, 102, 108, 111, 119] (by decide)) ?_
  conv => whnf
  refine hX _ ?_
  conv => whnf
  refine stuckF (hn' [115, 116, 97, 99, 107, 111, 118, 101, 114, 102, 108, 111, 119] (by decide)) ?_
  conv => whnf
  refine hX _ ?_
  conv => whnf
  refine stuckF (hn' [116, 121, 112, 101, 99, 104, 101, 99, 107] (by decide)) ?_
  conv => whnf
  refine hX _ ?_
  conv => whnf
  refine stuckF (hn' [114, 97, 110, 103, 101, 99, 104, 101, 99, 107] (by decide)) ?_
  conv => whnf
  refine hX _ ?_
  conv => whnf
  refine stuckF (hn' [117, 110, 100, 101, 102, 105, 110, 101, 100] (by decide)) ?_
  conv => whnf
  refine hX _ ?_
  conv => whnf
  refine stuckF (hn' [117, 110, 100, 101, 102, 105, 110, 101, 100, 114, 101, 115, 117, 108, 116] (by decide)) ?_
  conv => whnf
  refine hX _ ?_
  conv => whnf
  refine stuckF (hn' [108, 105, 109, 105, 116, 99, 104, 101, 99, 107] (by decide)) ?_
  conv => whnf
  refine hX _ ?_
  conv => whnf
  refine stuckF (hn' [86, 77, 101, 114, 114, 111, 114] (by decide)) ?_
  conv => whnf
  refine hX _ ?_
  conv => whnf
  refine stuckF (hn' [100, 105, 99, 116, 115, 116, 97, 99, 107, 117, 110, 100, 101, 114, 102, 108, 111, 119] (by decide)) ?_
  conv => whnf
  refine hX _ ?_
  conv => whnf
  refine stuckF (hn' [100, 105, 99, 116, 115, 116, 97, 99, 107, 111, 118, 101, 114, 102, 108, 111, 119] (by decide)) ?_
  conv => whnf
  refine hX _ ?_
  conv => whnf
  refine stuckF (hn' [100, 105, 99, 116, 102, 117, 108, 108] (by decide)) ?_
  conv => whnf
  refine hX _ ?_
  conv => whnf
  refine stuckF (hn' [105, 110, 118, 97, 108, 105, 100, 97, 99, 99, 101, 115, 115] (by decide)) ?_
  conv => whnf
  refine hX _ ?_
  conv => whnf
  refine stuckF (hn' [117, 110, 109, 97, 116, 99, 104, 101, 100, 109, 97, 114, 107] (by decide)) ?_
  conv => whnf
  refine hX _ ?_
  conv => whnf
  refine stuckF (hn' [105, 110, 118, 97, 108, 105, 100, 101, 120, 105, 116] (by decide)) ?_
  conv => whnf
  refine hX _ ?_
  conv => whnf
  refine stuckF (hn' [105, 110, 118, 97, 108, 105, 100, 114, 101, 115, 116, 111, 114, 101] (by decide)) ?_
  conv => whnf
  refine hX _ ?_
  conv => whnf
  refine stuckF (hn' [101, 120, 101, 99, 115, 116, 97, 99, 107, 111, 118, 101, 114, 102, 108, 111, 119] (by decide)) ?_
  conv => whnf
  refine hX _ ?_
  conv => whnf
  refine stuckF (hn' [105, 111, 101, 114, 114, 111, 114] (by decide)) ?_
  conv => whnf
  refine hX _ ?_
  conv => whnf
  refine stuckF (hn' [115, 121, 110, 116, 97, 120, 101, 114, 114, 111, 114] (by decide)) ?_
  conv => whnf
  refine hX _ ?_
  conv => whnf
  refine stuckF (hn' [110, 111, 99, 117, 114, 114, 101, 110, 116, 112, 111, 105, 110, 116] (by decide)) ?_
  conv => whnf
  refine hX _ ?_
  conv => whnf
  refine stuckF (hn' [105, 110, 118, 97, 108, 105, 100, 102, 111, 110, 116] (by decide)) ?_
  conv => whnf
  refine hX _ ?_
  conv => whnf
  refine stuckF (hn' [117, 110, 100, 101, 102, 105, 110, 101, 100, 114, 101, 115, 111, 117, 114, 99, 101] (by decide)) ?_
  conv => whnf
  refine hX _ ?_
  conv => whnf
  refine stuckF (hn' [99, 111, 110, 102, 105, 103, 117, 114, 97, 116, 105, 111, 110, 101, 114, 114, 111, 114] (by decide)) ?_
  conv => whnf
  refine hX _ ?_
  conv => whnf
  refine stuckF (hn' [116, 105, 109, 101, 111, 117, 116] (by decide)) ?_
  conv => whnf
  refine hX _ ?_
  conv => whnf
theorem refOut (Ok : Nat → List PV → Own → PV → Prop) (s : List UInt8) (h7 : Ok 7 [] [] namesL) (hn : ∀ c ∈ names, s ≠ c) : fnW noG Ok noX noT noT 0 c9 [.str s] (.int .i64 0) := by
  have hn' : ∀ c ∈ names, (c == s) = false := fun c hc => beq_eq_false_iff_ne.2 fun he => hn c hc he.symm
  conv => whnf
  refine ⟨_, _, h7, ?_⟩
  conv => whnf
  intro X hX
  refine hX _ ?_
  conv => whnf
  refine stuckF (hn' [115, 116, 97, 99, 107, 117, 110, 100, 101, 114, 102, 108, 111, 119] (by decide)) ?_
  conv => whnf
  refine hX _ ?_
  conv => whnf
  refine stuckF (hn' [115, 116, 97, 99, 107, 111, 118, 101, 114, 102, 108, 111, 119] (by decide)) ?_
  conv => whnf
  refine hX _ ?_
  conv => whnf
  refine stuckF (hn' [116, 121, 112, 101, 99, 104, 101, 99, 107] (by decide)) ?_
  conv => whnf
  refine hX _ ?_
  conv => whnf
  refine stuckF (hn' [114, 97, 110, 103, 101, 99, 104, 101, 99, 107] (by decide)) ?_
  conv => whnf
  refine hX _ ?_
  conv => whnf
  refine stuckF (hn' [117, 110, 100, 101, 102, 105, 110, 101, 100] (by decide)) ?_
  conv => whnf
  refine hX _ ?_
  conv => whnf
  refine stuckF (hn' [117, 110, 100, 101, 102, 105, 110, 101, 100, 114, 101, 115, 117, 108, 116] (by decide)) ?_
  conv => whnf
  refine hX _ ?_
  conv => whnf
  refine stuckF (hn' [108, 105, 109, 105, 116, 99, 104, 101, 99, 107] (by decide)) ?_
  conv => whnf
  refine hX _ ?_
  conv => whnf
  refine stuckF (hn' [86, 77, 101, 114, 114, 111, 114] (by decide)) ?_
  conv => whnf
  refine hX _ ?_
  conv => whnf
  refine stuckF (hn' [100, 105, 99, 116, 115, 116, 97, 99, 107, 117, 110, 100, 101, 114, 102, 108, 111, 119] (by decide)) ?_
  conv => whnf
  refine hX _ ?_
  conv => whnf
  refine stuckF (hn' [100, 105, 99, 116, 115, 116, 97, 99, 107, 111, 118, 101, 114, 102, 108, 111, 119] (by decide)) ?_
  conv => whnf
  refine hX _ ?_
  conv => whnf
  refine stuckF (hn' [100, 105, 99, 116, 102, 117, 108, 108] (by decide)) ?_
  conv => whnf
  refine hX _ ?_
  conv => whnf
  refine stuckF (hn' [105, 110, 118, 97, 108, 105, 100, 97, 99, 99, 101, 115, 115] (by decide)) ?_
  conv => whnf
  refine hX _ ?_
  conv => whnf
  refine stuckF (hn' [117, 110, 109, 97, 116, 99, 104, 101, 100, 109, 97, 114, 107] (by decide)) ?_
  conv => whnf
  refine hX _ ?_
  conv => whnf
  refine stuckF (hn' [105, 110, 118, 97, 108, 105, 100, 101, 120, 105, 116] (by decide)) ?_
  conv => whnf
  refine hX _ ?_
  conv => whnf
  refine stuckF (hn' [105, 110, 118, 97, 108, 105, 100, 114, 101, 115, 116, 111, 114, 101] (by decide)) ?_
  conv => whnf
  refine hX _ ?_
  conv => whnf
  refine stuckF (hn' [101, 120, 101, 99, 115, 116, 97, 99, 107, 111, 118, 101, 114, 102, 108, 111, 119] (by decide)) ?_
  conv => whnf
  refine hX _ ?_
  conv => whnf
  refine stuckF (hn' [105, 111, 101, 114, 114, 111, 114] (by decide)) ?_
  conv => whnf
  refine hX _ ?_
  conv => whnf
  refine stuckF (hn' [115, 121, 110, 116, 97, 120, 101, 114, 114, 111, 114] (by decide)) ?_
  conv => whnf
  refine hX _ ?_
  conv => whnf
  refine stuckF (hn' [110, 111, 99, 117, 114, 114, 101, 110, 116, 112, 111, 105, 110, 116] (by decide)) ?_
  conv => whnf
  refine hX _ ?_
  conv => whnf
  refine stuckF (hn' [105, 110, 118, 97, 108, 105, 100, 102, 111, 110, 116] (by decide)) ?_
  conv => whnf
  refine hX _ ?_
  conv => whnf
  refine stuckF (hn' [117, 110, 100, 101, 102, 105, 110, 101, 100, 114, 101, 115, 111, 117, 114, 99, 101] (by decide)) ?_
  conv => whnf
  refine hX _ ?_
  conv => whnf
  refine stuckF (hn' [99, 111, 110, 102, 105, 103, 117, 114, 97, 116, 105, 111, 110, 101, 114, 114, 111, 114] (by decide)) ?_
  conv => whnf
  refine hX _ ?_
  conv => whnf
  refine stuckF (hn' [116, 105, 109, 101, 111, 117, 116] (by decide)) ?_
  conv => whnf
  refine hX _ ?_
  conv => whnf
set_option maxRecDepth 100000 in
theorem refNameOut (Ok : Nat → List PV → Own → PV → Prop) (e : Int) (h : e < 20 ∨ 42 < e) (h7 : Ok 7 [] [] namesL) : fnW noG Ok noX noT noT 0 c6 [.int .i64 e] (.str []) := by
  conv => whnf
  refine ⟨_, _, h7, ?_⟩
  conv => whnf
  intro X hX
  refine hX _ ?_
  conv => whnf
  refine stuckF (beq_eq_false_iff_ne.2 fun he => by have he : e = 20 := he; omega) ?_
  conv => whnf
  refine hX _ ?_
  conv => whnf
  refine stuckF (beq_eq_false_iff_ne.2 fun he => by have he : e = 21 := he; omega) ?_
  conv => whnf
  refine hX _ ?_
  conv => whnf
  refine stuckF (beq_eq_false_iff_ne.2 fun he => by have he : e = 22 := he; omega) ?_
  conv => whnf
  refine hX _ ?_
  conv => whnf
  refine stuckF (beq_eq_false_iff_ne.2 fun he => by have he : e = 23 := he; omega) ?_
  conv => whnf
  refine hX _ ?_
  conv => whnf
  refine stuckF (beq_eq_false_iff_ne.2 fun he => by have he : e = 24 := he; omega) ?_
  conv => whnf
  refine hX _ ?_
  conv => whnf
  refine stuckF (beq_eq_false_iff_ne.2 fun he => by have he : e = 25 := he; omega) ?_
  conv => whnf
  refine hX _ ?_
  conv => whnf
  refine stuckF (beq_eq_false_iff_ne.2 fun he => by have he : e = 26 := he; omega) ?_
  conv => whnf
  refine hX _ ?_
  conv => whnf
  refine stuckF (beq_eq_false_iff_ne.2 fun he => by have he : e = 27 := he; omega) ?_
  conv => whnf
  refine hX _ ?_
  conv => whnf
  refine stuckF (beq_eq_false_iff_ne.2 fun he => by have he : e = 28 := he; omega) ?_
  conv => whnf
  refine hX _ ?_
  conv => whnf
  refine stuckF (beq_eq_false_iff_ne.2 fun he => by have he : e = 29 := he; omega) ?_
  conv => whnf
  refine hX _ ?_
  conv => whnf
  refine stuckF (beq_eq_false_iff_ne.2 fun he => by have he : e = 30 := he; omega) ?_
  conv => whnf
  refine hX _ ?_
  conv => whnf
  refine stuckF (beq_eq_false_iff_ne.2 fun he => by have he : e = 31 := he; omega) ?_
  conv => whnf
  refine hX _ ?_
  conv => whnf
  refine stuckF (beq_eq_false_iff_ne.2 fun he => by have he : e = 32 := he; omega) ?_
  conv => whnf
  refine hX _ ?_
  conv => whnf
  refine stuckF (beq_eq_false_iff_ne.2 fun he => by have he : e = 33 := he; omega) ?_
  conv => whnf
  refine hX _ ?_
  conv => whnf
  refine stuckF (beq_eq_false_iff_ne.2 fun he => by have he : e = 34 := he; omega) ?_
  conv => whnf
  refine hX _ ?_
  conv => whnf
  refine stuckF (beq_eq_false_iff_ne.2 fun he => by have he : e = 35 := he; omega) ?_
  conv => whnf
  refine hX _ ?_
  conv => whnf
  refine stuckF (beq_eq_false_iff_ne.2 fun he => by have he : e = 36 := he; omega) ?_
  conv => whnf
  refine hX _ ?_
  conv => whnf
  refine stuckF (beq_eq_false_iff_ne.2 fun he => by have he : e = 37 := he; omega) ?_
  conv => whnf
  refine hX _ ?_
  conv => whnf
  refine stuckF (beq_eq_false_iff_ne.2 fun he => by have he : e = 38 := he; omega) ?_
  conv => whnf
  refine hX _ ?_
  conv => whnf
  refine stuckF (beq_eq_false_iff_ne.2 fun he => by have he : e = 39 := he; omega) ?_
  conv => whnf
  refine hX _ ?_
  conv => whnf
  refine stuckF (beq_eq_false_iff_ne.2 fun he => by have he : e = 40 := he; omega) ?_
  conv => whnf
  refine hX _ ?_
  conv => whnf
  refine stuckF (beq_eq_false_iff_ne.2 fun he => by have he : e = 41 := he; omega) ?_
  conv => whnf
  refine hX _ ?_
  conv => whnf
  refine stuckF (beq_eq_false_iff_ne.2 fun he => by have he : e = 42 := he; omega) ?_
  conv => whnf
  refine hX _ ?_
  conv => whnf
end Go.Ab.Fn
