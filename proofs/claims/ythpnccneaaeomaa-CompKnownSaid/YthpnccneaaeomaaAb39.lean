/- From what a statement reads of an argument to what it stands for. Under: nothing. -/
import Derived.Test.YthpnccneaaeomaaAb38
import Derived.Carry
import Derived.OpenShut
namespace Go.Ab
open Go.RowKit Go.ChangeShapes

inductive Ty where
  | int (k : IntKind)
  | bool
  | str
  | sl (cs : List Ty)

/-- A pure value of a type. -/
inductive Has : Ty → PV → Prop
  | bool (b : Bool) : Has .bool (.bool b)
  | int {k : IntKind} {n : Int} (h : (Lit.int k n).wf = true) : Has (.int k) (.int k n)
  | str {s : List UInt8} (h : s.length ≤ maxLen) : Has .str (.str s)
  | sl {cs : List Ty} {rows : List (List PV)} (hw : ∀ row ∈ rows, row.length = cs.length) (h : ∀ row ∈ rows, ∀ (j : Nat) (q : PV) (t : Ty), row[j]? = some q → cs[j]? = some t → Has t q) (hl : rows.length ≤ maxLen) : Has (.sl cs) (.sl cs.length rows)

/-- All that lies in the world. -/
def Iall (w : World) : Imm := fun a k => (w.cell? ⟨a, k, none⟩).isSome = true

theorem Iall_bnd (w : World) : ∀ a k, Iall w a k → a < w.heap.size := by
  intro a k h
  unfold Iall World.cell? at h
  cases hr : w.heap[a]? with
  | none => simp [hr] at h
  | some o => exact (Array.getElem?_eq_some_iff.1 hr).1

inductive RepL (w : World) : List Value → List PV → List Ty → Prop
  | nil : RepL w [] [] []
  | cons {c : Value} {q : PV} {t : Ty} {cs : List Value} {qs : List PV} {ts : List Ty} (h : RepP w (Iall w) c q) (ht : Has t q) (h1 : c.oneCell' = true) (hs : RepL w cs qs ts) : RepL w (c :: cs) (q :: qs) (t :: ts)

theorem RepL.len {w : World} {cs : List Value} {qs : List PV} {ts : List Ty} (h : RepL w cs qs ts) : cs.length = ts.length ∧ qs.length = ts.length := by
  induction h with
  | nil => exact ⟨rfl, rfl⟩
  | cons _ _ _ _ ih => exact ⟨by simp [ih.1], by simp [ih.2]⟩

theorem RepL.get {w : World} {cs : List Value} {qs : List PV} {ts : List Ty} (h : RepL w cs qs ts) : ∀ (j : Nat) (c : Value) (q : PV), cs[j]? = some c → qs[j]? = some q → RepP w (Iall w) c q ∧ c.oneCell' = true ∧ ∀ t, ts[j]? = some t → Has t q := by
  induction h with
  | nil => intro j c q hc; simp at hc
  | cons h ht h1 _ ih =>
    intro j c q hc hq
    cases j with
    | zero => simp at hc hq; subst hc; subst hq; exact ⟨h, h1, fun t e => by simp at e; subst e; exact ht⟩
    | succ j => exact ih j c q (by simpa using hc) (by simpa using hq)

theorem RepL.append {w : World} {cs cs' : List Value} {qs qs' : List PV} {ts ts' : List Ty} (h : RepL w cs qs ts) (h' : RepL w cs' qs' ts') : RepL w (cs ++ cs') (qs ++ qs') (ts ++ ts') := by
  induction h with
  | nil => exact h'
  | cons a b c _ ih => exact .cons a b c ih

def tyFields (P : Program) (g : TypeId → Option (List Ty)) : List Field → Nat → Option (List Ty)
  | [], _ => some []
  | f :: fs, off => match g f.type with
    | some ts => match f.offset == off && P.cellsOf f.type == ts.length with
      | true => (match tyFields P g fs (off + ts.length) with | some r => some (ts ++ r) | none => none)
      | false => none
    | none => none

/-- The cells of a type. -/
def tyCells (P : Program) : Nat → TypeId → Option (List Ty)
  | 0, _ => none
  | n + 1, t => match P.underlying t with
    | some .bool => some [.bool]
    | some (.int k) => some [.int k]
    | some .string => some [.str]
    | some (.slice e) => (match tyCells P n e with
      | some [] => none
      | some (c :: cs) => (match P.cellsOf e == (c :: cs).length with | true => some [.sl (c :: cs)] | false => none)
      | none => none)
    | some (.struct fs) => (match tyFields P (tyCells P n) fs.toList 0 with
      | some ts => (match P.cellsOf t == ts.length with | true => some ts | false => none)
      | none => none)
    | _ => none

theorem add_none {a : Addr} (h : a.spot = none) (n : Nat) : a.add n = ⟨a.block, a.off + n, none⟩ := by
  obtain ⟨b, o, s⟩ := a
  simp only at h
  subst h
  unfold Addr.add
  split
  · rename_i h0; subst h0; rfl
  · rfl

section
variable {H : Type} {enc : TypeId × Value → H} {P : Program} {w : World} {base : Nat} {spare : Nat → Bool} {held : Bool}

theorem fields_rep {g : TypeId → Option (List Ty)} {n : Nat} {cs : List Value} (hg : ∀ t ts cs x, g t = some ts → DataW.trod enc P w base spare held n t cs = some x → ∃ qs, RepL w cs qs ts) : ∀ (fs : List Field) (off : Nat) (ts : List Ty), tyFields P g fs off = some ts →
    (∀ (i : Nat) (f : Field), fs[i]? = some f → ∃ y, DataW.trod enc P w base spare held n f.type ((cs.drop f.offset).take (P.cellsOf f.type)) = some y) → cs.length = off + ts.length → ∃ qs, RepL w (cs.drop off) qs ts
  | [], off, ts, h, _, hl => by
    simp only [tyFields] at h; cases h
    have : cs.drop off = [] := List.drop_eq_nil_of_le (by simp at hl; omega)
    exact ⟨[], this ▸ .nil⟩
  | f :: fs, off, ts, h, hf, hl => by
    simp only [tyFields] at h
    split at h
    · rename_i ts0 hts0
      split at h
      · rename_i hc
        simp only [Bool.and_eq_true, beq_iff_eq] at hc
        split at h
        · rename_i r hr
          cases h
          obtain ⟨y, hy⟩ := hf 0 f rfl
          rw [hc.1, hc.2] at hy
          obtain ⟨qs0, h0⟩ := hg _ _ _ _ hts0 hy
          obtain ⟨qs1, h1⟩ := fields_rep hg fs (off + ts0.length) r hr (fun i f hi => hf (i + 1) f (by simpa using hi)) (by rw [hl]; simp; omega)
          refine ⟨qs0 ++ qs1, ?_⟩
          have e : cs.drop off = (cs.drop off).take ts0.length ++ cs.drop (off + ts0.length) := by
            rw [← List.drop_drop]; exact (List.take_append_drop _ _).symm
          rw [e]
          exact h0.append h1
        · cases h
      · cases h
    · cases h

theorem rep_trod : ∀ (m : Nat) (t : TypeId) (ts : List Ty) (n : Nat) (cs : List Value) (x : DataW H × List MemPlace), tyCells P m t = some ts → DataW.trod enc P w base spare held n t cs = some x → ∃ qs, RepL w cs qs ts
  | 0, _, _, _, _, _, h, _ => by simp [tyCells] at h
  | m + 1, t, ts, n, cs, x, h, hx => by
    simp only [tyCells] at h
    split at h
    · rename_i ht
      cases h
      obtain ⟨b, rfl, _⟩ := DataW.trod_bool ht hx
      exact ⟨[.bool b], .cons (.bool b) (.bool b) rfl .nil⟩
    · rename_i k ht
      cases h
      obtain ⟨i, rfl, _, hw⟩ := DataW.trod_int ht hx
      exact ⟨[.int k i], .cons (.int k i) (.int hw) rfl .nil⟩
    · rename_i ht
      cases h
      obtain ⟨s, rfl, _, hs⟩ := DataW.trod_string ht hx
      exact ⟨[.str s.data.toList], .cons (.str s) (.str (by simpa using hs)) rfl .nil⟩
    · rename_i e ht
      split at h
      · cases h
      · rename_i c cs0 hc
        split at h
        · rename_i hsz
          cases h
          rw [beq_iff_eq] at hsz
          rcases DataW.trod_slice ht hx with ⟨rfl, _⟩ | ⟨a, len, cap, elems, rest, n', _, rfl, _, _, hlc, hcm, hel, hget, _⟩
          · exact ⟨[.sl (c :: cs0).length []], .cons (.sl (fun _ _ => undef) rfl (Nat.le_refl _) (fun i row hi => by simp at hi) (fun hn => absurd rfl hn) (fun i j row q hi => by simp at hi)) (.sl (fun row hr => by cases hr) (fun row hr => by cases hr) (Nat.zero_le _)) rfl .nil⟩
          · have hone : ∀ i, i < len → ∃ ci qs, w.cells? base (a.add (i * (c :: cs0).length)) (c :: cs0).length = some ci ∧ RepL w ci qs (c :: cs0) := by
              intro i hi
              have := hget i hi
              rw [hsz, List.getElem?_eq_getElem (by omega), Option.bind_eq_some_iff] at this
              obtain ⟨ci, h1, h2⟩ := this
              obtain ⟨qs, hq⟩ := rep_trod m e _ _ _ _ hc h2
              exact ⟨ci, qs, h1, hq⟩
            have hspot : 0 < len → a.spot = none := by
              intro hpos
              obtain ⟨ci, qs, h1, _⟩ := hone 0 hpos
              obtain ⟨_, hl, hcell⟩ := World.cells?_some h1
              have hlt : 0 < ci.length := by rw [hl]; simp
              have h0 := hcell 0 (by simp)
              rw [List.getElem?_eq_getElem hlt] at h0
              simp only [Nat.zero_mul] at h0
              have e0 : (a.add 0).add 0 = a := by simp [Addr.add]
              rw [e0] at h0
              unfold World.cell? at h0
              split at h0
              · split at h0
                · cases h0
                · rename_i hs; simpa using hs
              · cases h0
            classical
            let rowf : Nat → List PV := fun i => if hi : i < len then (hone i hi).choose_spec.choose else []
            have hrowf : ∀ i, i < len → ∃ ci, w.cells? base (a.add (i * (c :: cs0).length)) (c :: cs0).length = some ci ∧ RepL w ci (rowf i) (c :: cs0) := by
              intro i hi
              have := (hone i hi).choose_spec.choose_spec
              refine ⟨(hone i hi).choose, this.1, ?_⟩
              simp only [rowf, dif_pos hi]
              exact this.2
            let rows : List (List PV) := (List.range len).map rowf
            have hrow : ∀ (i : Nat) (row : List PV), rows[i]? = some row → i < len ∧ row = rowf i := by
              intro i row hr
              simp only [rows, List.getElem?_map, Option.map_eq_some_iff] at hr
              obtain ⟨k, hk, rfl⟩ := hr
              rw [List.getElem?_eq_some_iff] at hk
              obtain ⟨h1, h2⟩ := hk
              simp at h1 h2
              subst h2
              exact ⟨h1, rfl⟩
            let f : Nat → Nat → Value := fun i j => (w.cell? ⟨a.block, a.off + (i * (c :: cs0).length + j), none⟩).getD undef
            have hcell : ∀ i j, i < len → j < (c :: cs0).length → ∃ ci, RepL w ci (rowf i) (c :: cs0) ∧ ci[j]? = some (f i j) ∧ w.cell? ⟨a.block, a.off + (i * (c :: cs0).length + j), none⟩ = some (f i j) := by
              intro i j hi hj
              obtain ⟨ci, h1, h2⟩ := hrowf i hi
              obtain ⟨_, hl, hcell⟩ := World.cells?_some h1
              have hs := hspot (by omega)
              have e0 : (a.add (i * (c :: cs0).length)).add j = ⟨a.block, a.off + (i * (c :: cs0).length + j), none⟩ := by
                rw [add_none hs, add_none rfl]
                simp [Nat.add_assoc]
              have h0 := hcell j hj
              rw [e0, List.getElem?_eq_getElem (by rw [hl]; exact hj)] at h0
              refine ⟨ci, h2, ?_, ?_⟩
              · rw [List.getElem?_eq_getElem (by rw [hl]; exact hj)]; simp only [f, h0, Option.getD_some]
              · simp only [f, h0, Option.getD_some]
            have hwl : ∀ (i : Nat) (row : List PV), rows[i]? = some row → row.length = (c :: cs0).length := by
              intro i row hr
              obtain ⟨hi, rfl⟩ := hrow i row hr
              obtain ⟨ci, _, h2⟩ := hrowf i hi
              exact h2.len.2
            refine ⟨[.sl (c :: cs0).length rows], .cons (.sl f (by simp [rows]) hlc hwl (fun hne => ?_) (fun i j row q hr hq => ?_)) (.sl (fun row hr => ?_) (fun row hr j q t hq ht' => ?_) (by simp [rows]; omega)) rfl .nil⟩
            · have hpos : 0 < len := by
                rcases Nat.eq_zero_or_pos len with h0 | h0
                · exact absurd (by simp [rows, h0]) hne
                · exact h0
              refine ⟨a, rfl, hspot hpos, fun i j hi hj => ?_⟩
              have hi : i < len := by simpa [rows] using hi
              obtain ⟨ci, h1, h2, h3⟩ := hcell i j hi hj
              have hq : (rowf i)[j]? = some ((rowf i)[j]'(by rw [h1.len.2]; exact hj)) := List.getElem?_eq_getElem _
              exact ⟨h3, by unfold Iall; rw [h3]; rfl, (h1.get j _ _ h2 hq).2.1⟩
            · obtain ⟨hi, rfl⟩ := hrow i row hr
              have hj : j < (c :: cs0).length := by
                have := (List.getElem?_eq_some_iff.1 hq).1
                rw [hwl i _ hr] at this; exact this
              obtain ⟨ci, h1, h2, h3⟩ := hcell i j hi hj
              exact (h1.get j _ _ h2 hq).1
            · obtain ⟨i, hi⟩ := List.getElem?_of_mem hr
              exact hwl i row hi
            · obtain ⟨i, hi⟩ := List.getElem?_of_mem hr
              obtain ⟨hlt, rfl⟩ := hrow i row hi
              have hj : j < (c :: cs0).length := (List.getElem?_eq_some_iff.1 ht').1
              obtain ⟨ci, h1, h2, h3⟩ := hcell i j hlt hj
              exact (h1.get j _ _ h2 hq).2.2 t ht'
        · cases h
      · cases h
    · rename_i fs ht
      split at h
      · rename_i ts0 hts0
        split at h
        · rename_i hsz
          cases h
          rw [beq_iff_eq] at hsz
          obtain ⟨xs, n', _, _, hl, hxl, hget⟩ := DataW.trod_struct ht hx
          have := fields_rep (n := n') (fun t ts cs x h1 h2 => rep_trod m t ts n' cs x h1 h2) fs.toList 0 ts hts0 (fun i f hf => by
            have hf' : fs[i]? = some f := by simpa using hf
            have hi : i < xs.length := by rw [hxl]; exact (Array.getElem?_eq_some_iff.1 hf').1
            exact ⟨xs[i], (hget i f hf').trans (List.getElem?_eq_getElem hi)⟩) (by rw [hl, hsz]; simp)
          simpa using this
        · cases h
      · cases h
    · cases h

/-- One argument: a struct, or one cell. -/
def tyArg (P : Program) (t : TypeId) : Option (Bool × List Ty) := match tyCells P 100 t with
  | some ts => (match P.underlying t with
    | some (.struct _) => some (true, ts)
    | some _ => some (false, ts)
    | none => none)
  | none => none

/-- The cells of a struct, or the one cell. -/
def cellsIs : Bool → PV → List PV → Prop
  | true, p, qs => p = .agg qs
  | false, p, qs => qs = [p]

/-- What is known of an argument. -/
def HasArg (x : Bool × List Ty) (p : PV) : Prop :=
  ∃ qs, cellsIs x.1 p qs ∧ qs.length = x.2.length ∧ ∀ (j : Nat) (q : PV) (t : Ty), qs[j]? = some q → x.2[j]? = some t → Has t q

/-- What an argument stands for. -/
def Arg (w : World) (v : Value) (s : Bool) (ts : List Ty) (p : PV) : Prop := RepP w (Iall w) v p ∧ HasArg (s, ts) p

theorem arg_of_trod {t : TypeId} {v : Value} {d : DataW H} {ps : List MemPlace} {s : Bool} {ts : List Ty} (hty : tyArg P t = some (s, ts)) (h : DataW.Trod enc P w base spare held t v d ps) {W : World} {b : Nat} (hok : Value.okWide P W .any b t v) : ∃ p, Arg w v s ts p := by
  unfold tyArg at hty
  split at hty
  · rename_i ts' hts
    obtain ⟨n, hn⟩ := h
    obtain ⟨qs, hq⟩ := rep_trod 100 t ts' n _ _ hts hn
    split at hty
    · rename_i fs ht
      cases hty
      unfold Value.okWide at hok
      rw [ht] at hok
      obtain ⟨cs, rfl, _⟩ := hok
      have hcs : (Value.agg cs).cells.toList = cs.toList := by simp [Value.cells]
      rw [hcs] at hq
      refine ⟨.agg qs, .agg (by have := hq.len; simp at this; omega) (fun j x q hx hq' => (hq.get j x q (by simpa using hx) hq').1), qs, rfl, hq.len.2, fun j q t hq' ht' => ?_⟩
      have hj : j < cs.toList.length := by rw [hq.len.1]; exact (List.getElem?_eq_some_iff.1 ht').1
      exact (hq.get j _ q (List.getElem?_eq_getElem hj) hq').2.2 t ht'
    · rename_i td hns ht
      cases hty
      have one : ∀ x : Value, v.cells.toList = [x] → v = x ∨ v = .agg #[x] := by
        intro x hx
        cases v <;> simp_all [Value.cells]
        rename_i cs
        exact .inr (congrArg Array.mk hx)
      have hnos : ∀ fs, td ≠ .struct fs := fun fs e => hns fs e
      have hl1 : ts.length = 1 := by
        unfold tyCells at hts
        rw [ht] at hts
        split at hts
        · cases hts; rfl
        · cases hts; rfl
        · cases hts; rfl
        · split at hts
          · cases hts
          · split at hts <;> cases hts; rfl
          · cases hts
        · rename_i fs he; cases he; exact absurd rfl (hnos fs)
        · cases hts
      obtain ⟨t1, rfl⟩ : ∃ t1, ts = [t1] := by
        match ts, hl1 with
        | [t1], _ => exact ⟨t1, rfl⟩
      have hlen := hq.len
      obtain ⟨q1, rfl⟩ : ∃ q1, qs = [q1] := by
        match qs, hlen.2 with
        | [q1], _ => exact ⟨q1, rfl⟩
      generalize hcl : v.cells.toList = cl at hq
      cases hq with
      | cons hr ht1 h1 hs =>
        cases hs
        rename_i x
        have hv : v = x := by
          rcases one x hcl with h | h
          · exact h
          · subst h
            exfalso
            unfold tyCells at hts
            unfold Value.okWide at hok
            rw [ht] at hts hok
            split at hok
            · rename_i fs he; cases he; exact hnos fs rfl
            · rename_i n e he; cases he; simp at hts
            · unfold Cell.okWide at hok
              rw [ht] at hok
              split at hts
              · rename_i he; cases he; simp [Cell.ok, ht] at hok
              · rename_i k he; cases he; simp [Cell.ok, ht] at hok
              · rename_i he; cases he; simp [Cell.ok, ht] at hok
              · rename_i e he; cases he; simp [Cell.ok, ht] at hok
              · rename_i fs he; cases he; exact hnos fs rfl
              · cases hts
        subst hv
        exact ⟨q1, hr, [q1], rfl, rfl, fun j q t hq' ht' => by
          match j with
          | 0 => simp at hq' ht'; subst hq'; subst ht'; exact ht1
          | j + 1 => simp at hq'⟩
    · cases hty
  · cases hty

/-- Arguments read after the call as before. -/
theorem trodAll_below (hl : laidOutB P = true) {W W' : World} (hb : Below W.heap.size W W') {sp : Nat → Bool} : ∀ {ts : List TypeId} {vs : List Value} {ds : List (DataW H)} {ps : List MemPlace}, (∀ t ∈ ts, P.readableRec t = true ∧ t < P.types.size) →
    DataW.TrodAll enc P W 0 (fun _ => true) true ts vs ds ps → (∀ x ∈ ps, x.block < W.heap.size) → (∀ p ∈ ps, sp p.block = true) → DataW.TrodAll enc P W' 0 sp true ts vs ds ps
  | [], [], [], _, _, h, _, _ => h
  | t :: ts, v :: vs, d :: ds, _, hr, ⟨p, q, h1, h2, e⟩, hlt, hs => by
    subst e
    obtain ⟨r1, r2⟩ := hr t (by simp)
    exact ⟨p, q, WideElems.Trod_stays hl r1 r2 h1 (fun x hx => hb.same (hlt x (List.mem_append_left _ hx))) (fun x hx => hs x (List.mem_append_left _ hx)),
      trodAll_below hl hb (fun t ht => hr t (by simp [ht])) h2 (fun x hx => hlt x (List.mem_append_right _ hx)) (fun x hx => hs x (List.mem_append_right _ hx)), rfl⟩
  | [], _ :: _, _, _, _, h, _, _ => h.elim
  | [], [], _ :: _, _, _, h, _, _ => h.elim
  | _ :: _, [], _, _, _, h, _, _ => h.elim
  | _ :: _, _ :: _, [], _, _, h, _, _ => h.elim
end
end Go.Ab
