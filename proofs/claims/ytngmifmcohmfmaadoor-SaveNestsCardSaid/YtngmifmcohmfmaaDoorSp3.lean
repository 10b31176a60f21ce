/- Joined texts: Sp1, Sp4, Sp2, Sp3. Under: nothing. -/
import Derived.Test.YtngmifmcohmfmaaDoorSp0
import Derived.Test.YtngmifmcohmfmaaDoorAbG6
/- What the functions on objects and heaps answer: the program's and the reference's alike. Under: nothing. -/
namespace Go.Ab
open Classical
noncomputable section

def ob0 : Ob := ⟨0, false, 0, [], 0, 0, 0⟩
def cl0 : Cl := ⟨0, [], [], [], [], 0, 0⟩
def Ob.ck (o : Ob) : Int := if o.right then 0 else 200
def Cl.length (c : Cl) : Int := if c.kind = 1 then c.bytes.length else c.items.length
def Ob.val (o : Ob) : Int := if o.kind = 3 then IntKind.i64.wrap (o.n * 65536) else o.n
def Ob.key (o : Ob) : Ob := if o.kind = 4 ∧ o.n.tmod 65536 = 0 then ⟨3, false, o.n.tdiv 65536, [], 0, 0, 0⟩ else { o with exec := false }
/-- The cell that an object refers to. -/
def cellAt (h : List Cl) (o : Ob) : Cl := (h[o.ref.toNat]?).getD cl0
def sub (h : List Cl) (o : Ob) : List UInt8 := ((cellAt h o).bytes.take (o.off + o.len).toNat).drop o.off.toNat
def nmO (s : List UInt8) : Ob := ⟨5, false, 0, s, 0, 0, 0⟩
def look (c : Cl) (k : Ob) : Option Ob := if idxFrom k 0 c.keys < 0 then none else c.vals[(idxFrom k 0 c.keys).toNat]?
end
end Go.Ab
namespace Go.Ab
open Classical
theorem ck_eq0 (o : Ob) : (o.ck = 0) = o.right := by unfold Ob.ck; split <;> simp_all
theorem ck_ne0 (o : Ob) : (o.ck = 200) = ¬ o.right := by unfold Ob.ck; split <;> simp_all
theorem row_at {α : Type} {f : α → List PV} {l : List α} {d : α} {j : Int} (h0 : 0 ≤ j) (h1 : j < l.length) : (l.map f)[j.toNat]? = some (f ((l[j.toNat]?).getD d)) := by
  have : j.toNat < l.length := by omega
  simp [List.getElem?_eq_getElem this]
end Go.Ab
namespace Go.Ab
open Classical
end Go.Ab

/- How tests are decided in runs with symbols. Under: nothing. -/
namespace Go.Ab
theorem oT {b : Bool} {A B C : Prop} (k : A) (h : b = true := by first | assumption | (simp only [eqO, Ob.eta, Cl.eta, tt_true, tt_false, decide_eq_true_eq, decide_eq_false_iff_not, beq_iff_eq, beq_eq_false_iff_ne, bne_iff_ne, ne_eq, Bool.not_eq_true, Bool.not_eq_false, Bool.not_eq_eq_eq_not, Bool.not_true, Bool.not_false, Decidable.not_not, Int.not_lt, Int.not_le, gt_iff_lt, ge_iff_le, bne_eq_false_iff_eq, List.length_map, ck_eq0, ck_ne0]; first | done | assumption | omega)) : (b = true ∧ A) ∨ B ∨ C := .inl ⟨h, k⟩
theorem oF {b : Bool} {A B C : Prop} (k : A) (h : b = false := by first | assumption | (simp only [eqO, Ob.eta, Cl.eta, tt_true, tt_false, decide_eq_true_eq, decide_eq_false_iff_not, beq_iff_eq, beq_eq_false_iff_ne, bne_iff_ne, ne_eq, Bool.not_eq_true, Bool.not_eq_false, Bool.not_eq_eq_eq_not, Bool.not_true, Bool.not_false, Decidable.not_not, Int.not_lt, Int.not_le, gt_iff_lt, ge_iff_le, bne_eq_false_iff_eq, List.length_map, ck_eq0, ck_ne0]; first | done | assumption | omega)) : B ∨ (b = false ∧ A) ∨ C := .inr (.inl ⟨h, k⟩)
end Go.Ab

/- Facts about dictionaries in cells. Under: nothing. -/
namespace Go.Ab
open Classical
/-- Lists of a length that a machine can hold. -/
def Cl.small (c : Cl) : Prop := c.keys.length ≤ 1000000 ∧ c.vals.length ≤ 1000000 ∧ c.items.length ≤ 1000000 ∧ c.bytes.length ≤ 1000000
def small (h : List Cl) : Prop := h.length ≤ 1000000 ∧ ∀ c ∈ h, c.small
end Go.Ab

/- States. Under: nothing. -/
namespace Go.Ab
open Classical

/-- A state of a job. -/
structure Sta where
  ops : List Ob
  dicts : List Ob
  heap : List Cl
  f3 : List (List PV)
  f4 : Int
  f5 : Int
  f6 : Int
  f7 : Int
  f8 : Int
  f9 : Int
  f10 : Int
  f11 : List (List PV)
  f12 : Int
  f13 : Int
  f14 : Int
  f15 : Int
  f16 : Int
  f17 : Int
  f18 : Int
  f19 : Int
  f20 : Int
  f21 : Int
  f22 : Int
  f23 : Int
  f24 : Int
  f25 : Int
  f26 : Int
  f27 : Int
  f28 : Int
  f29 : Int
  f30 : Int
  f31 : Int
  f32 : Bool
  f33 : Bool
  f34 : List (List PV)
  f35 : Int
  f36 : Int
  f37 : Int
  f38 : Int
  f39 : Int
  f40 : Int
  f41 : Int
  f42 : Int
  f43 : List (List PV)
  f44 : Int
  f45 : Int
  f46 : List (List PV)
  f47 : Int
  f48 : Bool
  f49 : Int
  f50 : List UInt8
  f51 : Int
  f52 : Int
  f53 : Int
  f54 : Int
  f55 : Int
  f56 : Int
  f57 : Int
  f58 : Int
  f59 : Int
  f60 : Int
  f61 : Int
  f62 : List (List PV)
  f63 : List (List PV)
  f64 : List (List PV)
  f65 : List UInt8
  f66 : Int

def encS (s : Sta) : List PV := [.sl 7 (List.map encO s.ops), .sl 7 (List.map encO s.dicts), .sl 7 (List.map encC s.heap), .sl 3 s.f3, .int .i64 s.f4, .int .i64 s.f5, .int .i64 s.f6, .int .i64 s.f7, .int .i64 s.f8, .int .i64 s.f9, .int .i64 s.f10, .sl 7 s.f11, .int .i64 s.f12, .int .i64 s.f13, .int .i64 s.f14, .int .i64 s.f15, .int .i64 s.f16, .int .i64 s.f17, .int .i64 s.f18, .int .i64 s.f19, .int .i64 s.f20, .int .i64 s.f21, .int .i64 s.f22, .int .i64 s.f23, .int .i64 s.f24, .int .i64 s.f25, .int .i64 s.f26, .int .i64 s.f27, .int .i64 s.f28, .int .i64 s.f29, .int .i64 s.f30, .int .i64 s.f31, .bool s.f32, .bool s.f33, .sl 47 s.f34, .int .i64 s.f35, .int .i64 s.f36, .int .i64 s.f37, .int .i64 s.f38, .int .i64 s.f39, .int .i64 s.f40, .int .i64 s.f41, .int .i64 s.f42, .sl 1 s.f43, .int .i64 s.f44, .int .i64 s.f45, .sl 2 s.f46, .int .i64 s.f47, .bool s.f48, .int .i64 s.f49, .str s.f50, .int .i64 s.f51, .int .i64 s.f52, .int .i64 s.f53, .int .i64 s.f54, .int .i64 s.f55, .int .i64 s.f56, .int .i64 s.f57, .int .i64 s.f58, .int .i64 s.f59, .int .i64 s.f60, .int .i64 s.f61, .sl 57 s.f62, .sl 47 s.f63, .sl 3 s.f64, .str s.f65, .int .i64 s.f66]
abbrev aS (s : Sta) : PV := .agg (encS s)
end Go.Ab
