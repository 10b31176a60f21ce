/- Contracts of the library's pure functions as contracts here; strings.Index. Under: nothing. -/
import Derived.Test.YthpnccneaaeomaaAb41
import Derived.Lib.Index
namespace Go.Ab
open Go.RowKit

theorem simS_none {B : Nat} {w : World} {I : Imm} {D : Nat → Prop} (hb : ∀ a k, I a k → a < w.heap.size) : SimS B w I (fun _ => none) [] D :=
  ⟨hb, fun b o h => (by cases h), fun b b' o o' r h => (by cases h), fun b o r h => (by cases h), fun b o r k h => (by cases h), fun b o h => (by cases h)⟩

/-- A function that changes nothing and gives a pure result. -/
theorem okc_pure {P : Program} {G : Gl} {g : Nat} {c : RFn} {ps : List PV} {v : Value} {r : PV} (hk : chkFn P g c = true) (hv : ∀ w I, RepP w I v r)
    (hc : ∀ (w : World) (I : Imm) (vs : Array Value), GlobOk P G w I → ArgsOk w I vs ps → Calls P g vs w fun e w' => e = .returned v ∧ w' = w) : OkC P G g ps [] r := by
  intro w I vs hb hg ha
  obtain ⟨fn, code, hf⟩ := chkFn_spec hk
  refine ⟨hf.enter vs, callsIn_wide.2 ((hc w I vs hg ha).mono fun e w' ⟨he, hw⟩ => ?_)⟩
  subst he
  subst hw
  exact ⟨I, Below.refl _ _, fun _ _ h => h, fun _ _ _ h => h, fun nm => ⟨fun _ => none, simS_none hb, .pv (hv _ _)⟩⟩

theorem invP_str {w : World} {I : Imm} {x : Value} {s : List UInt8} (h : RepP w I x (.str s)) : ∃ b : ByteArray, x = .string b ∧ b.data.toList = s := by
  generalize hp : PV.str s = p at h
  cases h <;> cases hp
  exact ⟨_, rfl, rfl⟩

theorem args_two {w : World} {I : Imm} {vs : Array Value} {p q : PV} (h : ArgsOk w I vs [p, q]) : ∃ x y, vs = #[x, y] ∧ RepP w I x p ∧ RepP w I y q := by
  obtain ⟨hs, hr⟩ := h
  obtain ⟨l⟩ := vs
  match l, hs with
  | [x, y], _ => exact ⟨x, y, rfl, hr 0 x p rfl rfl, hr 1 y q rfl rfl⟩

/-- The first place from k on. -/
def idxK (t : List UInt8) : Nat → List UInt8 → Int
  | k, [] => match t.isEmpty with | true => k | false => -1
  | k, b :: l => match t.isPrefixOf (b :: l) with | true => k | false => idxK t (k + 1) l

theorem idxK_eq (t : List UInt8) : ∀ (l : List UInt8) (k : Nat), idxK t k l = if Lib.index l t = -1 then -1 else Lib.index l t + k
  | [], k => by
    simp only [idxK, Lib.index]
    by_cases h : t.isEmpty = true
    · simp [h]
    · simp [h]
  | b :: l, k => by
    simp only [idxK, Lib.index]
    by_cases hp : t.isPrefixOf (b :: l) = true
    · simp [hp]
    · have hp' : t.isPrefixOf (b :: l) = false := Bool.not_eq_true _ ▸ hp
      simp only [hp', Bool.false_eq_true, if_false, beq_iff_eq]
      rw [idxK_eq t l (k + 1)]
      by_cases h : Lib.index l t = -1
      · simp [h]
      · simp only [if_neg h]
        have := Lib.index_ge l t
        rw [if_neg (by omega)]
        push_cast
        omega

theorem idxK_zero (t l : List UInt8) : idxK t 0 l = Lib.index l t := by
  rw [idxK_eq]
  by_cases h : Lib.index l t = -1
  · simp [h]
  · simp [h]

theorem ref_one {w : World} {I : Imm} {a : Addr} {k : IntKind} {m : Int} (h : RepP w I (.pointer (some a)) (.ref [.int k m])) : w.cell? ⟨a.block, a.off + 0, none⟩ = some (.int k m) := by
  cases h with
  | ref f ha hp hr =>
    rw [(hp 0 (by simp)).1]
    have := hr 0 _ rfl
    generalize f 0 = x at this
    cases this
    rfl

/-- strings.Index, where the library's variable holds some int. -/
theorem index_ok {P : Program} {G : Gl} {g i : Nat} {m : Int} {c : RFn} (hk : chkFn P g c = true) (hG : G i = some [.int .i64 m]) {a b : List UInt8}
    (h : ∀ (s t : ByteArray) (w : World), s.size < 4294967281 → w.cell? ⟨i, 0, none⟩ = some (.int .i64 m) → Calls P g #[.string s, .string t] w fun e w' => e = .returned (.int .i64 (Lib.index s.data.toList t.data.toList)) ∧ w' = w) (hl : a.length < 4294967281) :
    OkC P G g [.str a, .str b] [] (.int .i64 (idxK b 0 a)) := by
  refine okc_pure (v := .int .i64 (idxK b 0 a)) hk (fun _ _ => .int _ _) fun w I vs hg ha => ?_
  obtain ⟨x, y, rfl, hx, hy⟩ := args_two ha
  obtain ⟨s, rfl, rfl⟩ := invP_str hx
  obtain ⟨t, rfl, rfl⟩ := invP_str hy
  rw [idxK_zero]
  refine h s t w (by simpa using hl) ?_
  exact ref_one (hg.glob i _ hG)
end Go.Ab
