/- Joined texts: TdArg, AbGl. Under: nothing. -/
import Derived.Test.YtngmifmcohmfmaaDoorTdTy
import Derived.Test.YtngmifmcohmfmaaDoorAbG5
import Derived.OpenShut
import Derived.FnData
/- What is known of a draft, a word, an octet. Under: nothing. -/
namespace Go.Ab.Td
open Go Go.Ab Go.ChangeShapes
def wordTy : List Ty := [.int .u8, .int .u8, .int .u8, .int .i32, .str]
def draftTy : List Ty := [.sl wordTy, .sl wordTy, .sl [.int .u8]]
theorem u8_of {n : Int} (h : (Lit.int .u8 n).wf = true) : 0 ≤ n ∧ n < 256 := by
  simp only [Lit.wf, Bool.and_eq_true, IntKind.min, IntKind.max, IntKind.signed, IntKind.bits] at h
  simp at h
  omega
theorem hasWord {qs : List PV} (hl : qs.length = 5) (h : ∀ (j : Nat) (q : PV) (t : Ty), qs[j]? = some q → wordTy[j]? = some t → Has t q) :
    ∃ K A B N S, qs = [.int .u8 K, .int .u8 A, .int .u8 B, .int .i32 N, .str S] ∧ (0 ≤ A ∧ A < 256) ∧ (0 ≤ B ∧ B < 256) := by
  match qs, hl with
  | [a, b, c, d, e], _ =>
    have k0 := h 0 _ _ rfl rfl
    have k1 := h 1 _ _ rfl rfl
    have k2 := h 2 _ _ rfl rfl
    have k3 := h 3 _ _ rfl rfl
    have k4 := h 4 _ _ rfl rfl
    cases k0 with
    | int w0 =>
    cases k1 with
    | int w1 =>
    cases k2 with
    | int w2 =>
    cases k3 with
    | int w3 =>
    cases k4 with
    | str w4 => exact ⟨_, _, _, _, _, rfl, u8_of w1, u8_of w2⟩
theorem hasWords {rows : List (List PV)} (hw : ∀ row ∈ rows, row.length = wordTy.length) (h : ∀ row ∈ rows, ∀ (j : Nat) (q : PV) (t : Ty), row[j]? = some q → wordTy[j]? = some t → Has t q) : ∀ r ∈ rows, WordR r := by
  intro r hr
  obtain ⟨K, A, B, N, S, e, h1, h2⟩ := hasWord (hw r hr) (h r hr)
  exact ⟨K, A, B, N, S, e, h1, h2⟩
theorem hasDraft {p : PV} (h : HasArg (true, draftTy) p) : ∃ cells ops dicts, p = .agg [.sl 5 cells, .sl 5 ops, .sl 1 dicts] ∧ (∀ r ∈ cells, WordR r) ∧ (∀ r ∈ ops, WordR r) ∧ ∀ r ∈ dicts, ∃ D, r = [.int .u8 D] ∧ 0 ≤ D ∧ D < 256 := by
  obtain ⟨qs, e, hl, h⟩ := h
  simp only [cellsIs] at e
  subst e
  match qs, hl with
  | [a, b, c], _ =>
    have k0 := h 0 _ _ rfl rfl
    have k1 := h 1 _ _ rfl rfl
    have k2 := h 2 _ _ rfl rfl
    cases k0 with
    | sl w0 g0 =>
    cases k1 with
    | sl w1 g1 =>
    cases k2 with
    | sl w2 g2 =>
      refine ⟨_, _, _, rfl, hasWords w0 g0, hasWords w1 g1, fun r hr => ?_⟩
      have hlr := w2 r hr
      match r, hlr with
      | [q], _ =>
        have k := g2 _ hr 0 _ _ rfl rfl
        cases k with
        | int w => exact ⟨_, rfl, u8_of w⟩
theorem hasU8 {p : PV} (h : HasArg (false, [.int .u8]) p) : ∃ n, p = .int .u8 n ∧ 0 ≤ n ∧ n < 256 := by
  obtain ⟨qs, e, hl, h⟩ := h
  simp only [cellsIs] at e
  subst e
  have k := h 0 _ _ rfl rfl
  cases k with
  | int w => exact ⟨_, rfl, u8_of w⟩
def HasL (qs : List PV) (ts : List Ty) : Prop := qs.length = ts.length ∧ ∀ (j : Nat) (q : PV) (t : Ty), qs[j]? = some q → ts[j]? = some t → Has t q
theorem HasL.split {qs : List PV} {ts r : List Ty} (h : HasL qs (ts ++ r)) : ∃ a b, qs = a ++ b ∧ HasL a ts ∧ HasL b r := by
  obtain ⟨hl, h⟩ := h
  simp only [List.length_append] at hl
  refine ⟨qs.take ts.length, qs.drop ts.length, (List.take_append_drop _ _).symm, ⟨by simp; omega, fun j q t hq ht => ?_⟩, ⟨by simp; omega, fun j q t hq ht => ?_⟩⟩
  · have hj : j < ts.length := (List.getElem?_eq_some_iff.1 ht).1
    rw [List.getElem?_take_of_lt hj] at hq
    exact h j q t hq (by rw [List.getElem?_append_left hj]; exact ht)
  · rw [List.getElem?_drop] at hq
    exact h _ q t hq (by rw [List.getElem?_append_right (by omega), Nat.add_sub_cancel_left]; exact ht)
/-- A word of the machine. -/
structure Wd where
  K : Int
  A : Int
  B : Int
  N : Int
  S : List UInt8
  hA : 0 ≤ A ∧ A < 256
  hB : 0 ≤ B ∧ B < 256
  hN : -2147483648 ≤ N ∧ N ≤ 2147483647
def Wd.row (w : Wd) : List PV := [.int .u8 w.K, .int .u8 w.A, .int .u8 w.B, .int .i32 w.N, .str w.S]
end Go.Ab.Td

/- A package's variable that is an array of strings, as it is laid. Under: nothing. -/
namespace Go.Ab
open Go.RowKit Go.ChangeShapes Go.WideShapes

theorem mapM_some {α β : Type} {f : α → Option β} : ∀ {l : List α} {ys : List β}, l.mapM f = some ys → ys.length = l.length ∧ ∀ (j : Nat) (x : α) (y : β), l[j]? = some x → ys[j]? = some y → f x = some y
  | [], ys, h => by simp at h; subst h; exact ⟨rfl, fun j x y hx => by simp at hx⟩
  | a :: l, ys, h => by
    simp only [List.mapM_cons, Option.bind_eq_bind, Option.pure_def] at h
    cases ha : f a with
    | none => simp [ha] at h
    | some b =>
      cases hl : l.mapM f with
      | none => simp [ha, hl] at h
      | some bs =>
        simp [ha, hl] at h
        subst h
        obtain ⟨e1, e2⟩ := mapM_some hl
        refine ⟨by simp [e1], fun j x y hx hy => ?_⟩
        cases j with
        | zero => simp at hx hy; subst hx hy; exact ha
        | succ j => simp at hx hy; exact e2 j x y hx hy

/-- The cells of a variable that is an array of strings. -/
theorem glob_strs {P : Program} {W : World} {name : String} {g t e : Nat} {ss : List (List UInt8)} (hg : P.globalNamed name = some g) (ht : (P.globals[g]?).map (·.type) = some t) (ha : P.underlying t = some (.array ss.length e)) (he : P.underlying e = some .string) (hc : P.cellsOf e = 1) (_hct : P.cellsOf t = ss.length)
    (h : laidMet P [(name, .agg (ss.map fun s => .lit (.string s)))] W) : RepP W (Iall W) (.pointer (some ⟨g, 0, none⟩)) (.ref (ss.map .str)) := by
  obtain ⟨ps, ⟨g', t', cs, fuel, p, q, h1, h2, h3, h4, _⟩, _⟩ := h
  obtain rfl := Option.some.inj (hg.symm.trans h1)
  obtain rfl := Option.some.inj (ht.symm.trans h2)
  obtain ⟨f, hlen, xs, hx, hd⟩ : ∃ f, cs.toList.length = P.cellsOf t ∧ ∃ xs, (List.range ss.length).mapM (fun i => DataW.trod (fun _ => ()) P W 0 (fun _ => true) false f e ((cs.toList.drop (i * P.cellsOf e)).take (P.cellsOf e))) = some xs ∧ ((DataW.agg (xs.map (·.1)) : DataW Unit), xs.flatMap (·.2)) = (.agg (ss.map fun s => .lit (.string s)), p) := by
    cases fuel with
    | zero => simp [DataW.trod] at h4
    | succ f =>
      simp only [DataW.trod, ha] at h4
      split at h4
      · rename_i hl
        rw [Option.map_eq_some_iff] at h4
        obtain ⟨xs, hx, hd⟩ := h4
        exact ⟨f, hl, xs, hx, hd⟩
      · cases h4
  obtain ⟨e1, e2⟩ := mapM_some hx
  have hd1 : xs.map (·.1) = ss.map fun s => (DataW.lit (.string s) : DataW Unit) := by
    have := congrArg Prod.fst hd
    simpa using this
  have cell : ∀ (j : Nat) (s : List UInt8), ss[j]? = some s → ∃ b : ByteArray, W.cell? ⟨g, 0 + j, none⟩ = some (.string b) ∧ b.data.toList = s := by
    intro j s hs
    have hj : j < ss.length := (List.getElem?_eq_some_iff.1 hs).1
    have hjx : j < xs.length := by rw [e1, List.length_range]; exact hj
    have hxj : xs[j]? = some xs[j] := List.getElem?_eq_getElem hjx
    have hr : (List.range ss.length)[j]? = some j := by rw [List.getElem?_range hj]
    have ht := e2 j j _ hr hxj
    obtain ⟨b, hb, hv, _⟩ := DataW.trod_string he ht
    have h5 : (xs.map (·.1))[j]? = some (DataW.lit (.string b.data.toList)) := by rw [List.getElem?_map, hxj, hv]; rfl
    rw [hd1, List.getElem?_map, hs] at h5
    simp at h5
    rw [hc, Nat.mul_one] at hb
    have h6 : cs[j]? = some (.string b) := by
      have : ((cs.toList.drop j).take 1)[0]? = some (.string b) := by rw [hb]; rfl
      rw [List.getElem?_take_of_lt (by decide), List.getElem?_drop] at this
      simpa using this
    exact ⟨b, by rw [Nat.zero_add, World.var?_cell hg h3 j]; exact h6, h5.symm⟩
  refine .ref (fun j => ((W.cell? ⟨g, 0 + j, none⟩).getD .nilFunc)) rfl (fun j hj => ?_) (fun j q hq => ?_)
  · obtain ⟨s, hs⟩ : ∃ s, ss[j]? = some s := ⟨_, List.getElem?_eq_getElem (by simpa using hj)⟩
    obtain ⟨b, hb, _⟩ := cell j s hs
    refine ⟨by rw [hb]; rfl, by unfold Iall; rw [hb]; rfl, by rw [hb]; rfl⟩
  · rw [List.getElem?_map, Option.map_eq_some_iff] at hq
    obtain ⟨s, hs, rfl⟩ := hq
    obtain ⟨b, hb, rfl⟩ := cell j s hs
    rw [hb]
    exact .str b
end Go.Ab
