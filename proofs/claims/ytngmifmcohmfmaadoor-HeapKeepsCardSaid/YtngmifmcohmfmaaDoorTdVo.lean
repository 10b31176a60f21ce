/- Joined texts: TdVm, TdVn, TdVo. Under: nothing. -/
import Derived.Test.YtngmifmcohmfmaaDoorTdVl
import Derived.Test.YtngmifmcohmfmaaDoorTdPu
import Derived.Test.YtngmifmcohmfmaaDoorTdVg
import Derived.Test.YtngmifmcohmfmaaDoorTdAr4
import Derived.Test.YtngmifmcohmfmaaDoorTdW11
import Derived.Test.YtngmifmcohmfmaaDoorTdRL
import Derived.Test.YtngmifmcohmfmaaDoorTdHa
import Derived.Test.YtngmifmcohmfmaaDoorTdSm
import Derived.Test.YtngmifmcohmfmaaDoorTdLr
/- What PutBytes and PutItems do in valid heaps. Under: nothing. -/
namespace Go.Ab.Td
open Go Go.Ab
set_option linter.unusedSimpArgs false
theorem repl_sub {α : Type} {l x : List α} {i : Nat} (h : i + x.length ≤ l.length) : ((repl l i x).take (i + x.length)).drop i = x := by
  unfold repl
  have h1 : (l.take i).length = i := by rw [List.length_take]; omega
  rw [List.take_left' (by rw [List.length_append, h1]), List.drop_left' h1]
theorem cellAt_set {h : List Cl} {o : Ob} {c : Cl} (hl : o.ref.toNat < h.length) : cellAt (h.set o.ref.toNat c) o = c := by
  unfold cellAt
  rw [List.getElem?_set_self hl]
  rfl
/-- A part of a string or an array. -/
def cutO (o : Ob) (a n : Int) : Ob := { o with off := o.off + a, len := n }
theorem right_cut {o : Ob} (h : o.right) (hk : o.kind = 6 ∨ o.kind = 7 ∨ o.kind = 8) {a n : Int} (h0 : 0 ≤ a) (h1 : 0 ≤ n) (h2 : a + n ≤ o.len) : (cutO o a n).right := by
  obtain ⟨k, ⟨b1, b2, b3, b4, b5⟩, r1, r2, r3, r4, r5, r6, r7, r8⟩ := h
  obtain ⟨q1, q2, q3⟩ := r7 hk
  exact ⟨k, ⟨b1, b2, b3, .inr hk, .inr hk⟩, r1, r2, r3, r4, r5, r6, fun _ => ⟨by dsimp only [cutO]; omega, h1, by dsimp only [cutO]; omega⟩, r8⟩
theorem intvl_cut {o : Ob} (h : o.right) (hk : o.kind = 6 ∨ o.kind = 7 ∨ o.kind = 8) {a n : Int} (h0 : 0 ≤ a) (h1 : 0 ≤ n) (h2 : a + n ≤ o.len) : intvl o a n = (cutO o a n, 0) := by
  obtain ⟨q1, q2, q3⟩ := right_off h
  unfold intvl cutO
  rw [if_neg (fun x => x h), if_neg (by omega), wrap_small (v := o.len - a) (by omega) (by omega), if_neg (by omega), wrap_small (v := o.off + a) (by omega) (by omega)]
theorem room_facts {o : Ob} (h : o.right) {a n : Int} (hr : roomE o a n = 0) : 0 ≤ a ∧ a + n ≤ o.len := by
  obtain ⟨q1, q2, q3⟩ := right_off h
  unfold roomE at hr
  by_cases hx : a < 0 ∨ a > o.len ∨ n > IntKind.i64.wrap (o.len - a)
  · rw [if_pos hx] at hr; cases hr
  · simp only [not_or] at hx
    obtain ⟨x1, x2, x3⟩ := hx
    rw [wrap_small (by omega) (by omega)] at x3
    omega
theorem fits_at {h : List Cl} {o : Ob} (hf : fits h o) (hk : cellK o.kind ≠ 0) : ∃ c, h[o.ref.toNat]? = some c ∧ cellAt h o = c ∧ c.kind = cellK o.kind ∧ (o.kind ≠ 9 ∧ o.kind ≠ 11 → o.off + o.len ≤ c.length) := by
  obtain ⟨h1, h2, h3⟩ := fits_cell hf hk
  exact ⟨_, h1, rfl, h2, h3⟩
/-- PutBytes in a valid heap. -/
theorem putB_ok {h : List Cl} {o : Ob} (hv : validH h) (hf : fits h o) (hk : o.kind = 6) {a : Int} {s : List UInt8} (hr : roomE o a s.length = 0) :
    validH (putBh h o a s) ∧ intvl o a s.length = (cutO o a s.length, 0) ∧ vErr (putBh h o a s) (cutO o a s.length) [6] = 0 ∧ sub (putBh h o a s) (cutO o a s.length) = s := by
  obtain ⟨h0, h2⟩ := room_facts hf.1 hr
  obtain ⟨q1, q2, q3⟩ := right_off hf.1
  obtain ⟨c, hc, ec, hck, hcl⟩ := fits_at hf (by rw [hk]; decide)
  rw [hk] at hck
  have hck1 : c.kind = 1 := hck
  have hlen : o.off + o.len ≤ (c.bytes.length : Int) := by
    have := hcl (by omega)
    rwa [Cl.length, if_pos hck1] at this
  have ht : (o.off + a).toNat + s.length ≤ c.bytes.length := by omega
  have hl := (List.getElem?_eq_some_iff.1 hc).1
  have hrc := hv.1 c (List.mem_of_getElem? hc)
  unfold putBh
  rw [ec]
  have e1 : (repl c.bytes (o.off + a).toNat s).length = c.bytes.length := repl_len ht
  have hv2 : validH (h.set o.ref.toNat { c with bytes := repl c.bytes (o.off + a).toNat s }) := by
    refine valid_set hv hc rfl (.inr (.inr ?_)) ?_ ?_
    · unfold Cl.length; dsimp only; rw [e1]
    · unfold Cl.size; dsimp only; rw [e1]
    · rcases hrc with ⟨k, a1, r⟩ | ⟨k, -⟩ | ⟨k, -⟩ | ⟨k, -⟩
      · exact .inl ⟨k, by dsimp only; rw [e1]; exact a1, r⟩
      · omega
      · omega
      · omega
  have hcut := right_cut hf.1 (.inl hk) h0 (by omega : (0 : Int) ≤ s.length) h2
  refine ⟨hv2, intvl_cut hf.1 (.inl hk) h0 (by omega) h2, ?_, ?_⟩
  · unfold vErr
    rw [if_neg, if_pos (by show o.kind ∈ [6]; rw [hk]; simp)]
    refine fun x => x ⟨hcut, fun _ => ⟨_, List.getElem?_set_self hl, ?_, fun _ => ?_⟩⟩
    · show c.kind = cellK o.kind
      rw [hk]; exact hck
    · show o.off + a + (s.length : Int) ≤ Cl.length _
      unfold Cl.length
      dsimp only
      rw [if_pos hck1, e1]
      omega
  · unfold sub
    rw [show cellAt (h.set o.ref.toNat { c with bytes := repl c.bytes (o.off + a).toNat s }) (cutO o a s.length) = { c with bytes := repl c.bytes (o.off + a).toNat s } from cellAt_set (o := cutO o a s.length) hl]
    dsimp only [cutO]
    rw [show (o.off + a + (s.length : Int)).toNat = (o.off + a).toNat + s.length by omega]
    exact repl_sub ht
/-- PutItems in a valid heap. -/
theorem putI_ok {h : List Cl} {o : Ob} (hv : validH h) (hf : fits h o) (hk : o.kind = 7) {a : Int} {l : List Ob} (hl' : ∀ x ∈ l, fits h x) (hr : roomE o a l.length = 0) :
    validH (putIh h o a l) ∧ intvl o a l.length = (cutO o a l.length, 0) ∧ vErr (putIh h o a l) (cutO o a l.length) [7, 8] = 0 ∧ subI (putIh h o a l) (cutO o a l.length) = l := by
  obtain ⟨h0, h2⟩ := room_facts hf.1 hr
  obtain ⟨q1, q2, q3⟩ := right_off hf.1
  obtain ⟨c, hc, ec, hck, hcl⟩ := fits_at hf (by rw [hk]; decide)
  rw [hk] at hck
  have hck1 : c.kind = 2 := hck
  have hlen : o.off + o.len ≤ (c.items.length : Int) := by
    have := hcl (by omega)
    rwa [Cl.length, if_neg (by omega)] at this
  have ht : (o.off + a).toNat + l.length ≤ c.items.length := by omega
  have hl := (List.getElem?_eq_some_iff.1 hc).1
  have hrc := hv.1 c (List.mem_of_getElem? hc)
  unfold putIh
  rw [ec]
  have e1 : (repl c.items (o.off + a).toNat l).length = c.items.length := repl_len ht
  have hm : ∀ x ∈ repl c.items (o.off + a).toNat l, x ∈ c.items ∨ x ∈ l := by
    intro x hx
    unfold repl at hx
    rcases List.mem_append.1 hx with hx | hx
    · rcases List.mem_append.1 hx with hx | hx
      · exact .inl (List.mem_of_mem_take hx)
      · exact .inr hx
    · exact .inl (List.mem_of_mem_drop hx)
  have hv2 : validH (h.set o.ref.toNat { c with items := repl c.items (o.off + a).toNat l }) := by
    refine valid_set hv hc rfl (.inr (.inr ?_)) ?_ ?_
    · unfold Cl.length; dsimp only; rw [e1]
    · unfold Cl.size; dsimp only; rw [e1]
    · rcases hrc with ⟨k, -⟩ | ⟨k, a1, a2, a3, r⟩ | ⟨k, -⟩ | ⟨k, -⟩
      · omega
      · refine .inr (.inl ⟨k, a1, by dsimp only; rw [e1]; exact a2, fun x hx => ?_, r⟩)
        rcases hm x hx with hx | hx
        · exact a3 x hx
        · exact hl' x hx
      · omega
      · omega
  have hcut := right_cut hf.1 (.inr (.inl hk)) h0 (by omega : (0 : Int) ≤ l.length) h2
  refine ⟨hv2, intvl_cut hf.1 (.inr (.inl hk)) h0 (by omega) h2, ?_, ?_⟩
  · unfold vErr
    rw [if_neg, if_pos (by show o.kind ∈ [7, 8]; rw [hk]; simp)]
    refine fun x => x ⟨hcut, fun _ => ⟨_, List.getElem?_set_self hl, ?_, fun _ => ?_⟩⟩
    · show c.kind = cellK o.kind
      rw [hk]; exact hck
    · show o.off + a + (l.length : Int) ≤ Cl.length _
      unfold Cl.length
      dsimp only
      rw [if_neg (by omega), e1]
      omega
  · unfold subI
    rw [show cellAt (h.set o.ref.toNat { c with items := repl c.items (o.off + a).toNat l }) (cutO o a l.length) = { c with items := repl c.items (o.off + a).toNat l } from cellAt_set (o := cutO o a l.length) hl]
    dsimp only [cutO]
    rw [show (o.off + a + (l.length : Int)).toNat = (o.off + a).toNat + l.length by omega]
    exact repl_sub ht
theorem putI_nil {h : List Cl} {o : Ob} (hf : fits h o) (hk : o.kind = 7) : putIh h o 0 [] = h := by
  obtain ⟨c, hc, ec, hck, hcl⟩ := fits_at hf (by rw [hk]; decide)
  unfold putIh
  rw [ec]
  have e : repl c.items (o.off + 0).toNat [] = c.items := by
    unfold repl
    simp
  rw [e]
  apply List.ext_getElem?
  intro i
  by_cases hi : i = o.ref.toNat
  · subst hi
    rw [List.getElem?_set_self (List.getElem?_eq_some_iff.1 hc).1, hc]
  · rw [List.getElem?_set_ne (fun x => hi x.symm)]
end Go.Ab.Td

/- HeapFinds: the law. Under: nothing. -/
namespace Go.Ab.Td
open Go Go.Ab
variable {P : Program}
set_option linter.unusedSimpArgs false
attribute [local irreducible] compat
theorem cellR_small {h : List Cl} {c : Cl} (hr : cellR h c) : c.small := by
  rcases hr with ⟨-, h1, h2, h3, h4, -⟩ | ⟨-, h1, h2, -, h4, h5, -⟩ | ⟨-, h1, h2, -, h4, h5, h6, h7, -⟩ | ⟨-, h1, h2, h3, h4, -⟩
  · exact ⟨by omega, by omega, by omega, by omega⟩
  · exact ⟨by omega, by omega, by omega, by rw [h1]; simp⟩
  · exact ⟨by omega, by omega, by omega, by rw [h1]; simp⟩
  · exact ⟨by omega, by omega, by omega, by omega⟩
theorem valid_small {h : List Cl} (hv : validH h) (hl : h.length ≤ 1000000) : small h := ⟨hl, fun c hc => cellR_small (hv.1 c hc)⟩
theorem nC_set {h : List Cl} {c : Cl} (hs : ∀ d ∈ h, nC d) (hc : nC c) (j : Nat) : ∀ d ∈ h.set j c, nC d := by
  intro d hd
  rcases List.mem_or_eq_of_mem_set hd with hd | rfl
  · exact hs d hd
  · exact hc
theorem kc0 (C : Laid P) {h : List Cl} (hv : validH h) (hl : h.length ≤ 1000000) (hn : ∀ c ∈ h, nC c) : OkC P G n_heap_Check [.sl 7 (List.map encC h)] [] (pI 0) := by
  have k := ok_heap_Check C h (valid_small hv hl) (fun c hc => (hn c hc).objs)
  rw [((chk_cases h).resolve_right (fun hx => hx.1 hv)).2] at k
  exact k


end Go.Ab.Td

/- HeapKeeps: the law. Under: nothing. -/
namespace Go.Ab.Td
open Go Go.Ab
variable {P : Program}
set_option linter.unusedSimpArgs false
attribute [local irreducible] compat
theorem put_cases {h : List Cl} {o : Ob} (hf : fits h o) (a nS nL : Int) : (o.kind = 6 ∧ vErr h o [6] = 0 ∧ vErr h o [7, 8] = 22 ∧ roomE o a nS = 0) ∨ (o.kind = 6 ∧ vErr h o [6] = 0 ∧ vErr h o [7, 8] = 22 ∧ roomE o a nS ≠ 0) ∨
    (o.kind = 7 ∧ vErr h o [6] = 22 ∧ vErr h o [7, 8] = 0 ∧ roomE o a nL = 0) ∨ (o.kind = 7 ∧ vErr h o [6] = 22 ∧ vErr h o [7, 8] = 0 ∧ roomE o a nL ≠ 0) ∨ (o.kind = 8 ∧ vErr h o [6] = 22 ∧ vErr h o [7, 8] = 0 ∧ True) ∨
    ((o.kind ≠ 6 ∧ o.kind ≠ 7 ∧ o.kind ≠ 8) ∧ vErr h o [6] = 22 ∧ vErr h o [7, 8] = 22 ∧ True) := by
  have e6 : vErr h o [6] = if o.kind = 6 then 0 else 22 := by unfold vErr; rw [if_neg (fun x => x hf)]; simp
  have e7 : vErr h o [7, 8] = if o.kind = 7 ∨ o.kind = 8 then 0 else 22 := by unfold vErr; rw [if_neg (fun x => x hf)]; simp
  rw [e6, e7]
  by_cases k6 : o.kind = 6
  · by_cases hr : roomE o a nS = 0
    · exact .inl ⟨k6, by simp [k6], by simp [k6], hr⟩
    · exact .inr (.inl ⟨k6, by simp [k6], by simp [k6], hr⟩)
  by_cases k7 : o.kind = 7
  · by_cases hr : roomE o a nL = 0
    · exact .inr (.inr (.inl ⟨k7, by simp [k7], by simp [k7], hr⟩))
    · exact .inr (.inr (.inr (.inl ⟨k7, by simp [k7], by simp [k7], hr⟩)))
  by_cases k8 : o.kind = 8
  · exact .inr (.inr (.inr (.inr (.inl ⟨k8, by simp [k8], by simp [k8], trivial⟩))))
  · exact .inr (.inr (.inr (.inr (.inr ⟨⟨k6, k7, k8⟩, by simp [k6], by simp [k7, k8], trivial⟩))))
theorem room_nil {h : List Cl} {o : Ob} (hf : fits h o) : roomE o 0 (([] : List Ob).length : Int) = 0 := by
  obtain ⟨q1, q2, q3⟩ := right_off hf.1
  unfold roomE
  rw [if_neg]
  rw [wrap_small (by omega) (by omega)]
  simp
  omega
theorem nC_at {h : List Cl} (hn : ∀ c ∈ h, nC c) (o : Ob) : nC (cellAt h o) := by
  unfold cellAt
  cases hc : h[o.ref.toNat]? with
  | none => exact ⟨by simp [cl0], by simp [cl0], by simp [cl0]⟩
  | some c => exact hn c (List.mem_of_getElem? hc)
theorem nC_putB {h : List Cl} (hn : ∀ c ∈ h, nC c) (o : Ob) (a : Int) (s : List UInt8) : ∀ c ∈ putBh h o a s, nC c := nC_set (c := { cellAt h o with bytes := repl (cellAt h o).bytes (o.off + a).toNat s }) hn ⟨(nC_at hn o).1, (nC_at hn o).2.1, (nC_at hn o).2.2⟩ _
theorem nC_putI {h : List Cl} (hn : ∀ c ∈ h, nC c) (o : Ob) (a : Int) {l : List Ob} (hl : ∀ x ∈ l, x.n < 9223372036854775808) : ∀ c ∈ putIh h o a l, nC c := by
  refine nC_set (c := { cellAt h o with items := repl (cellAt h o).items (o.off + a).toNat l }) hn ⟨fun x hx => ?_, (nC_at hn o).2.1, (nC_at hn o).2.2⟩ _
  dsimp only at hx
  unfold repl at hx
  rcases List.mem_append.1 hx with hx | hx
  · rcases List.mem_append.1 hx with hx | hx
    · exact (nC_at hn o).1 x (List.mem_of_mem_take hx)
    · exact hl x hx
  · exact (nC_at hn o).1 x (List.mem_of_mem_drop hx)
theorem valid_app {h : List Cl} {c : Cl} (hv : validH h) (h0 : 0 ≤ totFrom 0 h) (h1 : totFrom 0 h ≤ 2000) (hc : cellR h c) (c0 : 0 ≤ c.size) (c1 : c.size ≤ 41) : validH (h ++ [c]) ∧ ¬ IntKind.i64.wrap (totFrom 0 h + c.size) > 20000 := by
  have e : IntKind.i64.wrap (totFrom 0 h + c.size) = totFrom 0 h + c.size := wrap_small (by omega) (by omega)
  refine ⟨⟨fun d hd => ?_, by rw [tot_app, e]; omega⟩, by rw [e]; omega⟩
  rcases List.mem_append.1 hd with hd | hd
  · exact cellR_mono (fun o ho => fits_app ho) (hv.1 d hd)
  · simp only [List.mem_singleton] at hd; subst hd; exact cellR_mono (fun o ho => fits_app ho) hc
theorem nC_appL {h : List Cl} {c : Cl} (hs : ∀ d ∈ h, nC d) (hc : nC c) : ∀ d ∈ h ++ [c], nC d := by
  intro d hd
  rcases List.mem_append.1 hd with hd | hd
  · exact hs d hd
  · simp only [List.mem_singleton] at hd; subst hd; exact hc
theorem small_big9 {h : List Cl} (hs : small h) : big h := ⟨by have := hs.1; omega, fun c hc => by obtain ⟨h1, h2, h3, h4⟩ := hs.2 c hc; exact ⟨by omega, by omega, by omega⟩⟩

theorem ttT' {p : Prop} (h : p) : tt p = true := tt_true.mpr h


set_option maxHeartbeats 8000000 in
set_option maxRecDepth 100000 in
theorem ok_law11_HeapKeeps (C : Laid P) (cells ops dicts : List (List PV)) (hc : ∀ r ∈ cells, WordN r) (w0 w1 w2 w3 : Wd) (at1 : Int) (_hat : 0 ≤ at1 ∧ at1 < 256) (s0 : List UInt8) : OkC P G n_law11_HeapKeeps [.agg [.sl 5 cells, .sl 5 ops, .sl 1 dicts], .agg (w0.row ++ (w1.row ++ (w2.row ++ w3.row))), .int .u8 at1, .str s0] [] (.bool true) := by
  refine ok_fn C (k_law11_HeapKeeps C) rfl ?_
  obtain ⟨h, ht, kh⟩ := kit_heapV C cells ops dicts hc
  have hs := ht.1.small
  have hv := ht.valid
  have hl20 := ht.1.len
  have hnn : ∀ c ∈ h, nC c := fun c hx => clOk.nC (ht.1.ok c hx)
  have kc := kc0 C hv (by omega) hnn
  obtain ⟨o, hon, hof, kt⟩ := wd_obj C ht.1 w0
  obtain ⟨p, hpn, hpf, k1⟩ := wd_obj C ht.1 w1
  obtain ⟨q, hqn, hqf, k2⟩ := wd_obj C ht.1 w2
  obtain ⟨c3, ⟨cok, cr, cs0, cs1⟩, k3⟩ := kit_cellV C ht.1 w3.K w3.A w3.B w3.N w3.S w3.hA w3.hB w3.hN
  obtain ⟨hva, hnt⟩ := valid_app hv ht.2.2.1 (by have := ht.2.2.2; omega) cr cs0 cs1
  have kN := ok_heap_New C h c3 (by omega) hnt
  have kca := kc0 C hva (by simp; omega) (nC_appL hnn (clOk.nC cok))
  have kS := ok_ref11_Same C h h (small_big9 hs)
  rw [ttT' rfl] at kS
  have hw1 : IntKind.i64.wrap ((h.length : Int) + 1) = (h.length : Int) + 1 := wrap_small (by omega) (by omega)
  obtain ⟨a, ha⟩ : ∃ a, a = IntKind.i64.wrap (at1.tmod 5) := ⟨_, rfl⟩
  obtain ⟨s, hse⟩ : ∃ s, s = (s0.take (4 : Int).toNat) := ⟨_, rfl⟩
  have hsl : s.length ≤ 4 := by rw [hse, show (4 : Int).toNat = 4 from rfl, List.length_take]; omega
  have hlq : ∀ x ∈ [p, q], fits h x := by
    intro x hx
    simp only [List.mem_cons, List.not_mem_nil, or_false] at hx
    rcases hx with rfl | rfl
    · exact hpf
    · exact hqf
  have hlqn : ∀ x ∈ [p, q], x.n < 9223372036854775808 := by
    intro x hx
    simp only [List.mem_cons, List.not_mem_nil, or_false] at hx
    rcases hx with rfl | rfl
    · exact hpn
    · exact hqn
  obtain ⟨wK, wA, wB, wN, wS, wa1, wa2, wa3⟩ := w0
  obtain ⟨xK, xA, xB, xN, xS, xa1, xa2, xa3⟩ := w1
  obtain ⟨yK, yA, yB, yN, yS, ya1, ya2, ya3⟩ := w2
  obtain ⟨zK, zA, zB, zN, zS, za1, za2, za3⟩ := w3
  rcases put_cases hof a s.length ([p, q].length : Int) with ⟨hk, e6, e78, hr⟩ | ⟨hk, e6, e78, hr⟩ | ⟨hk, e6, e78, hr⟩ | ⟨hk, e6, e78, hr⟩ | ⟨hk, e6, e78, hr⟩ | ⟨hk, e6, e78, hr⟩
  · obtain ⟨v2, iv, ve, se⟩ := putB_ok hv hof hk hr
    have kI := ok_heap_Interval C o a s.length hon
    rw [iv] at kI
    have kP := ok_heap_PutBytes C h o hs hon a s e6 hr
    have kB := ok_heap_Bytes C (putBh h o a s) (cutO o a s.length) hon ve
    rw [se] at kB
    have kC2 := kc0 C v2 (by unfold putBh; rw [List.length_set]; omega) (nC_putB hnn o a s)
    have hpl : (putBh h o a s).length = h.length := by unfold putBh; rw [List.length_set]
    generalize putBh h o a s = n at *
    dsimp only at kI
    rw [ha, hse] at kI kP kB
    have kQ := ok_heap_PutItems_bad C h o hon 0 [] (by rw [e78]; decide)
    rw [e78] at kQ
    repeat' (conv => whnf
             first
               | (with_reducible refine sC (by kernel_rfl) ?_)
               | ((first | with_reducible refine sB ?_ | with_reducible refine sG0 ?_ | with_reducible refine sG1 ?_ | refine sP (by rfl) ?_); first | refine Or.inl ⟨by first | assumption | (simp only [eqO, Ob.eta, Cl.eta, tt_true, tt_false, decide_eq_true_eq, decide_eq_false_iff_not, beq_iff_eq, beq_eq_false_iff_ne, bne_iff_ne, ne_eq, Bool.not_eq_true, Bool.not_eq_false, Bool.not_eq_eq_eq_not, Bool.not_true, Bool.not_false, Decidable.not_not, Int.not_lt, Int.not_le, gt_iff_lt, ge_iff_le, bne_eq_false_iff_eq, List.length_map, List.length_append, List.length_cons, List.length_nil, hw1]; first | done | assumption | omega), ?_⟩ | refine Or.inr (Or.inl ⟨by first | assumption | (simp only [eqO, Ob.eta, Cl.eta, tt_true, tt_false, decide_eq_true_eq, decide_eq_false_iff_not, beq_iff_eq, beq_eq_false_iff_ne, bne_iff_ne, ne_eq, Bool.not_eq_true, Bool.not_eq_false, Bool.not_eq_eq_eq_not, Bool.not_true, Bool.not_false, Decidable.not_not, Int.not_lt, Int.not_le, gt_iff_lt, ge_iff_le, bne_eq_false_iff_eq, List.length_map, List.length_append, List.length_cons, List.length_nil, hw1]; first | done | assumption | omega), ?_⟩) | (refine Or.inr (Or.inr ⟨fun hsp => ?_, fun hsp => ?_⟩) <;> (try simp only [eqO, Ob.eta, Cl.eta, tt_true, tt_false, decide_eq_true_eq, decide_eq_false_iff_not, beq_iff_eq, beq_eq_false_iff_ne, bne_iff_ne, ne_eq, Bool.not_eq_true, Bool.not_eq_false, Bool.not_eq_eq_eq_not, Bool.not_true, Bool.not_false, Decidable.not_not, Int.not_lt, Int.not_le, gt_iff_lt, ge_iff_le, bne_eq_false_iff_eq, List.length_map, List.length_append, List.length_cons, List.length_nil, hw1] at hsp) <;> try subst hsp))
               | refine ⟨_, _, TdW11.ok C, ?_⟩
               | refine ⟨_, _, kh, ?_⟩
               | refine ⟨_, _, kc, ?_⟩
               | refine ⟨_, _, kt, ?_⟩
               | refine ⟨_, _, k1, ?_⟩
               | refine ⟨_, _, k2, ?_⟩
               | refine ⟨_, _, k3, ?_⟩
               | refine ⟨_, _, kN, ?_⟩
               | refine ⟨_, _, kca, ?_⟩
               | refine ⟨_, _, (by rw [show List.drop (Int.toNat 0) (List.take (h.length : Int).toNat (h ++ [c3])) = h by simp]; exact kS), ?_⟩
               | refine ⟨_, _, kP, ?_⟩
               | refine ⟨_, _, kI, ?_⟩
               | refine ⟨_, _, kB, ?_⟩
               | refine ⟨_, _, kC2, ?_⟩
               | refine ⟨_, _, (by have k := ok_heap_PutItems_bad C h o hon a [p, q] (by rw [e78]; decide); rw [e78] at k; rw [ha] at k; exact k), ?_⟩
               | refine sS (sslice_min (by rfl) (by rfl) (by decide)) ?_
               | refine sS (slice_M (f := encC) (l := h ++ [c3]) (a := 0) (h := (h.length : Int)) (by rfl) (by rfl) (by rfl) (by omega) (by omega) (by simp; omega)) ?_
               | fail)
    all_goals (conv => whnf)
    intro X hX hWX
    refine loopI hX (fun st (i : Nat) => st.upd [(205, .pv (pI (i : Int)))] []) (fun i k => i + k = h.length) 0 h.length (by (conv => whnf); first | done | rfl) (by simp) ?_
    intro m i ih hI
    rcases at_or h i with ⟨x, hlt, hx⟩ | hge
    · have hrow := row_map (f := encC) hx
      have kX := ok_ref11_SameCell C x x (small_big9 hs |>.2 x (List.mem_of_getElem? hx))
      rw [ttT' rfl] at kX
      repeat' (conv => whnf
               first
                 | (with_reducible refine sC (by kernel_rfl) ?_)
                 | ((first | with_reducible refine sB ?_ | with_reducible refine sG0 ?_ | with_reducible refine sG1 ?_ | refine sP (by rfl) ?_); first | refine oT ?_ | refine oF ?_ | (refine Or.inr (Or.inr ⟨fun hsp => ?_, fun hsp => ?_⟩) <;> (try simp only [eqO, Ob.eta, Cl.eta, tt_true, tt_false, decide_eq_true_eq, decide_eq_false_iff_not, beq_iff_eq, beq_eq_false_iff_ne, bne_iff_ne, ne_eq, Bool.not_eq_true, Bool.not_eq_false, Bool.not_eq_eq_eq_not, Bool.not_true, Bool.not_false, Decidable.not_not, Int.not_lt, Int.not_le, gt_iff_lt, ge_iff_le, bne_eq_false_iff_eq, List.length_map] at hsp) <;> try subst hsp))
                 | refine ⟨_, _, (okc_arg kQ (.cons (.refl _) (.cons (.refl _) (.cons (.refl _) (.cons (.emp 7) .nil))))), ?_⟩
                 | refine ⟨_, _, kX, ?_⟩
                 | refine sS (iaddr_at (by rfl) (by rfl) (by omega) hrow) ?_
                 | fail)
      all_goals (conv => whnf)
      all_goals (refine ih (m - 1) (i + 1) _ (by omega) (by (try dsimp only); omega) (by (conv => whnf); first | done | rfl | (simp (disch := omega) only [wrap_succ])))
    · repeat' (conv => whnf
               first
                 | (with_reducible refine sC (by kernel_rfl) ?_)
                 | ((first | with_reducible refine sB ?_ | with_reducible refine sG0 ?_ | with_reducible refine sG1 ?_ | refine sP (by rfl) ?_); first | refine oT ?_ | refine oF ?_ | (refine Or.inr (Or.inr ⟨fun hsp => ?_, fun hsp => ?_⟩) <;> (try simp only [eqO, Ob.eta, Cl.eta, tt_true, tt_false, decide_eq_true_eq, decide_eq_false_iff_not, beq_iff_eq, beq_eq_false_iff_ne, bne_iff_ne, ne_eq, Bool.not_eq_true, Bool.not_eq_false, Bool.not_eq_eq_eq_not, Bool.not_true, Bool.not_false, Decidable.not_not, Int.not_lt, Int.not_le, gt_iff_lt, ge_iff_le, bne_eq_false_iff_eq, List.length_map] at hsp) <;> try subst hsp))
                 | fail)
      all_goals (conv => whnf)
      all_goals exact PV.le.refl _
  · have kP := ok_heap_PutBytes_room C h o hon a s e6 hr
    rw [ha, hse] at kP
    have kQ := ok_heap_PutItems_bad C h o hon 0 [] (by rw [e78]; decide)
    rw [e78] at kQ
    repeat' (conv => whnf
             first
               | (with_reducible refine sC (by kernel_rfl) ?_)
               | ((first | with_reducible refine sB ?_ | with_reducible refine sG0 ?_ | with_reducible refine sG1 ?_ | refine sP (by rfl) ?_); first | refine Or.inl ⟨by first | assumption | (simp only [eqO, Ob.eta, Cl.eta, tt_true, tt_false, decide_eq_true_eq, decide_eq_false_iff_not, beq_iff_eq, beq_eq_false_iff_ne, bne_iff_ne, ne_eq, Bool.not_eq_true, Bool.not_eq_false, Bool.not_eq_eq_eq_not, Bool.not_true, Bool.not_false, Decidable.not_not, Int.not_lt, Int.not_le, gt_iff_lt, ge_iff_le, bne_eq_false_iff_eq, List.length_map, List.length_append, List.length_cons, List.length_nil, hw1]; first | done | assumption | omega), ?_⟩ | refine Or.inr (Or.inl ⟨by first | assumption | (simp only [eqO, Ob.eta, Cl.eta, tt_true, tt_false, decide_eq_true_eq, decide_eq_false_iff_not, beq_iff_eq, beq_eq_false_iff_ne, bne_iff_ne, ne_eq, Bool.not_eq_true, Bool.not_eq_false, Bool.not_eq_eq_eq_not, Bool.not_true, Bool.not_false, Decidable.not_not, Int.not_lt, Int.not_le, gt_iff_lt, ge_iff_le, bne_eq_false_iff_eq, List.length_map, List.length_append, List.length_cons, List.length_nil, hw1]; first | done | assumption | omega), ?_⟩) | (refine Or.inr (Or.inr ⟨fun hsp => ?_, fun hsp => ?_⟩) <;> (try simp only [eqO, Ob.eta, Cl.eta, tt_true, tt_false, decide_eq_true_eq, decide_eq_false_iff_not, beq_iff_eq, beq_eq_false_iff_ne, bne_iff_ne, ne_eq, Bool.not_eq_true, Bool.not_eq_false, Bool.not_eq_eq_eq_not, Bool.not_true, Bool.not_false, Decidable.not_not, Int.not_lt, Int.not_le, gt_iff_lt, ge_iff_le, bne_eq_false_iff_eq, List.length_map, List.length_append, List.length_cons, List.length_nil, hw1] at hsp) <;> try subst hsp))
               | refine ⟨_, _, TdW11.ok C, ?_⟩
               | refine ⟨_, _, kh, ?_⟩
               | refine ⟨_, _, kc, ?_⟩
               | refine ⟨_, _, kt, ?_⟩
               | refine ⟨_, _, k1, ?_⟩
               | refine ⟨_, _, k2, ?_⟩
               | refine ⟨_, _, k3, ?_⟩
               | refine ⟨_, _, kN, ?_⟩
               | refine ⟨_, _, kca, ?_⟩
               | refine ⟨_, _, (by rw [show List.drop (Int.toNat 0) (List.take (h.length : Int).toNat (h ++ [c3])) = h by simp]; exact kS), ?_⟩
               | refine ⟨_, _, kP, ?_⟩
               | refine ⟨_, _, (by have k := ok_heap_PutItems_bad C h o hon a [p, q] (by rw [e78]; decide); rw [e78] at k; rw [ha] at k; exact k), ?_⟩
               | refine sS (sslice_min (by rfl) (by rfl) (by decide)) ?_
               | refine sS (slice_M (f := encC) (l := h ++ [c3]) (a := 0) (h := (h.length : Int)) (by rfl) (by rfl) (by rfl) (by omega) (by omega) (by simp; omega)) ?_
               | fail)
    all_goals (conv => whnf)
    intro X hX hWX
    refine loopI hX (fun st (i : Nat) => st.upd [(205, .pv (pI (i : Int)))] []) (fun i k => i + k = h.length) 0 h.length (by (conv => whnf); first | done | rfl) (by simp) ?_
    intro m i ih hI
    rcases at_or h i with ⟨x, hlt, hx⟩ | hge
    · have hrow := row_map (f := encC) hx
      have kX := ok_ref11_SameCell C x x (small_big9 hs |>.2 x (List.mem_of_getElem? hx))
      rw [ttT' rfl] at kX
      repeat' (conv => whnf
               first
                 | (with_reducible refine sC (by kernel_rfl) ?_)
                 | ((first | with_reducible refine sB ?_ | with_reducible refine sG0 ?_ | with_reducible refine sG1 ?_ | refine sP (by rfl) ?_); first | refine oT ?_ | refine oF ?_ | (refine Or.inr (Or.inr ⟨fun hsp => ?_, fun hsp => ?_⟩) <;> (try simp only [eqO, Ob.eta, Cl.eta, tt_true, tt_false, decide_eq_true_eq, decide_eq_false_iff_not, beq_iff_eq, beq_eq_false_iff_ne, bne_iff_ne, ne_eq, Bool.not_eq_true, Bool.not_eq_false, Bool.not_eq_eq_eq_not, Bool.not_true, Bool.not_false, Decidable.not_not, Int.not_lt, Int.not_le, gt_iff_lt, ge_iff_le, bne_eq_false_iff_eq, List.length_map] at hsp) <;> try subst hsp))
                 | refine ⟨_, _, (okc_arg kQ (.cons (.refl _) (.cons (.refl _) (.cons (.refl _) (.cons (.emp 7) .nil))))), ?_⟩
                 | refine ⟨_, _, kX, ?_⟩
                 | refine sS (iaddr_at (by rfl) (by rfl) (by omega) hrow) ?_
                 | fail)
      all_goals (conv => whnf)
      all_goals (refine ih (m - 1) (i + 1) _ (by omega) (by (try dsimp only); omega) (by (conv => whnf); first | done | rfl | (simp (disch := omega) only [wrap_succ])))
    · repeat' (conv => whnf
               first
                 | (with_reducible refine sC (by kernel_rfl) ?_)
                 | ((first | with_reducible refine sB ?_ | with_reducible refine sG0 ?_ | with_reducible refine sG1 ?_ | refine sP (by rfl) ?_); first | refine oT ?_ | refine oF ?_ | (refine Or.inr (Or.inr ⟨fun hsp => ?_, fun hsp => ?_⟩) <;> (try simp only [eqO, Ob.eta, Cl.eta, tt_true, tt_false, decide_eq_true_eq, decide_eq_false_iff_not, beq_iff_eq, beq_eq_false_iff_ne, bne_iff_ne, ne_eq, Bool.not_eq_true, Bool.not_eq_false, Bool.not_eq_eq_eq_not, Bool.not_true, Bool.not_false, Decidable.not_not, Int.not_lt, Int.not_le, gt_iff_lt, ge_iff_le, bne_eq_false_iff_eq, List.length_map] at hsp) <;> try subst hsp))
                 | fail)
      all_goals (conv => whnf)
      all_goals exact PV.le.refl _
  · obtain ⟨v2, iv, ve, se⟩ := putI_ok hv hof hk hlq hr
    have kI := ok_heap_Interval C o a ([p, q].length : Int) hon
    rw [iv] at kI
    have kP := ok_heap_PutItems C h o hs hon a [p, q] e78 hk hr
    have kB := ok_heap_Items C (putIh h o a [p, q]) (cutO o a ([p, q].length : Int)) hon ve
    rw [se] at kB
    have kC2 := kc0 C v2 (by unfold putIh; rw [List.length_set]; omega) (nC_putI hnn o a hlqn)
    generalize putIh h o a [p, q] = n at *
    dsimp only at kI
    rw [ha] at kI kP
    rw [ha] at kB
    have kQ := ok_heap_PutItems C h o hs hon 0 [] e78 hk (room_nil hof)
    rw [putI_nil hof hk] at kQ
    repeat' (conv => whnf
             first
               | (with_reducible refine sC (by kernel_rfl) ?_)
               | ((first | with_reducible refine sB ?_ | with_reducible refine sG0 ?_ | with_reducible refine sG1 ?_ | refine sP (by rfl) ?_); first | refine Or.inl ⟨by first | assumption | (simp only [eqO, Ob.eta, Cl.eta, tt_true, tt_false, decide_eq_true_eq, decide_eq_false_iff_not, beq_iff_eq, beq_eq_false_iff_ne, bne_iff_ne, ne_eq, Bool.not_eq_true, Bool.not_eq_false, Bool.not_eq_eq_eq_not, Bool.not_true, Bool.not_false, Decidable.not_not, Int.not_lt, Int.not_le, gt_iff_lt, ge_iff_le, bne_eq_false_iff_eq, List.length_map, List.length_append, List.length_cons, List.length_nil, hw1]; first | done | assumption | omega), ?_⟩ | refine Or.inr (Or.inl ⟨by first | assumption | (simp only [eqO, Ob.eta, Cl.eta, tt_true, tt_false, decide_eq_true_eq, decide_eq_false_iff_not, beq_iff_eq, beq_eq_false_iff_ne, bne_iff_ne, ne_eq, Bool.not_eq_true, Bool.not_eq_false, Bool.not_eq_eq_eq_not, Bool.not_true, Bool.not_false, Decidable.not_not, Int.not_lt, Int.not_le, gt_iff_lt, ge_iff_le, bne_eq_false_iff_eq, List.length_map, List.length_append, List.length_cons, List.length_nil, hw1]; first | done | assumption | omega), ?_⟩) | (refine Or.inr (Or.inr ⟨fun hsp => ?_, fun hsp => ?_⟩) <;> (try simp only [eqO, Ob.eta, Cl.eta, tt_true, tt_false, decide_eq_true_eq, decide_eq_false_iff_not, beq_iff_eq, beq_eq_false_iff_ne, bne_iff_ne, ne_eq, Bool.not_eq_true, Bool.not_eq_false, Bool.not_eq_eq_eq_not, Bool.not_true, Bool.not_false, Decidable.not_not, Int.not_lt, Int.not_le, gt_iff_lt, ge_iff_le, bne_eq_false_iff_eq, List.length_map, List.length_append, List.length_cons, List.length_nil, hw1] at hsp) <;> try subst hsp))
               | refine ⟨_, _, TdW11.ok C, ?_⟩
               | refine ⟨_, _, kh, ?_⟩
               | refine ⟨_, _, kc, ?_⟩
               | refine ⟨_, _, kt, ?_⟩
               | refine ⟨_, _, k1, ?_⟩
               | refine ⟨_, _, k2, ?_⟩
               | refine ⟨_, _, k3, ?_⟩
               | refine ⟨_, _, kN, ?_⟩
               | refine ⟨_, _, kca, ?_⟩
               | refine ⟨_, _, (by rw [show List.drop (Int.toNat 0) (List.take (h.length : Int).toNat (h ++ [c3])) = h by simp]; exact kS), ?_⟩
               | refine ⟨_, _, (by have k := ok_heap_PutBytes_bad C h o hon a s (by rw [e6]; decide); rw [e6] at k; rw [ha, hse] at k; exact k), ?_⟩
               | refine ⟨_, _, kP, ?_⟩
               | refine ⟨_, _, kI, ?_⟩
               | refine ⟨_, _, kB, ?_⟩
               | refine ⟨_, _, kC2, ?_⟩
               | refine sS (sslice_min (by rfl) (by rfl) (by decide)) ?_
               | refine sS (slice_M (f := encC) (l := h ++ [c3]) (a := 0) (h := (h.length : Int)) (by rfl) (by rfl) (by rfl) (by omega) (by omega) (by simp; omega)) ?_
               | fail)
    all_goals (conv => whnf)
    intro X hX hWX
    refine loopI hX (fun st (i : Nat) => st.upd [(205, .pv (pI (i : Int)))] []) (fun i k => i + k = h.length) 0 h.length (by (conv => whnf); first | done | rfl) (by simp) ?_
    intro m i ih hI
    rcases at_or h i with ⟨x, hlt, hx⟩ | hge
    · have hrow := row_map (f := encC) hx
      have kX := ok_ref11_SameCell C x x (small_big9 hs |>.2 x (List.mem_of_getElem? hx))
      rw [ttT' rfl] at kX
      repeat' (conv => whnf
               first
                 | (with_reducible refine sC (by kernel_rfl) ?_)
                 | ((first | with_reducible refine sB ?_ | with_reducible refine sG0 ?_ | with_reducible refine sG1 ?_ | refine sP (by rfl) ?_); first | refine oT ?_ | refine oF ?_ | (refine Or.inr (Or.inr ⟨fun hsp => ?_, fun hsp => ?_⟩) <;> (try simp only [eqO, Ob.eta, Cl.eta, tt_true, tt_false, decide_eq_true_eq, decide_eq_false_iff_not, beq_iff_eq, beq_eq_false_iff_ne, bne_iff_ne, ne_eq, Bool.not_eq_true, Bool.not_eq_false, Bool.not_eq_eq_eq_not, Bool.not_true, Bool.not_false, Decidable.not_not, Int.not_lt, Int.not_le, gt_iff_lt, ge_iff_le, bne_eq_false_iff_eq, List.length_map] at hsp) <;> try subst hsp))
                 | refine ⟨_, _, (okc_arg kQ (.cons (.refl _) (.cons (.refl _) (.cons (.refl _) (.cons (.emp 7) .nil))))), ?_⟩
                 | refine ⟨_, _, kX, ?_⟩
                 | refine sS (iaddr_at (by rfl) (by rfl) (by omega) hrow) ?_
                 | fail)
      all_goals (conv => whnf)
      all_goals (refine ih (m - 1) (i + 1) _ (by omega) (by (try dsimp only); omega) (by (conv => whnf); first | done | rfl | (simp (disch := omega) only [wrap_succ])))
    · repeat' (conv => whnf
               first
                 | (with_reducible refine sC (by kernel_rfl) ?_)
                 | ((first | with_reducible refine sB ?_ | with_reducible refine sG0 ?_ | with_reducible refine sG1 ?_ | refine sP (by rfl) ?_); first | refine oT ?_ | refine oF ?_ | (refine Or.inr (Or.inr ⟨fun hsp => ?_, fun hsp => ?_⟩) <;> (try simp only [eqO, Ob.eta, Cl.eta, tt_true, tt_false, decide_eq_true_eq, decide_eq_false_iff_not, beq_iff_eq, beq_eq_false_iff_ne, bne_iff_ne, ne_eq, Bool.not_eq_true, Bool.not_eq_false, Bool.not_eq_eq_eq_not, Bool.not_true, Bool.not_false, Decidable.not_not, Int.not_lt, Int.not_le, gt_iff_lt, ge_iff_le, bne_eq_false_iff_eq, List.length_map] at hsp) <;> try subst hsp))
                 | fail)
      all_goals (conv => whnf)
      all_goals exact PV.le.refl _
  · have kP := ok_heap_PutItems_room C h o hon a [p, q] e78 hk hr
    rw [ha] at kP
    have kQ := ok_heap_PutItems C h o hs hon 0 [] e78 hk (room_nil hof)
    rw [putI_nil hof hk] at kQ
    repeat' (conv => whnf
             first
               | (with_reducible refine sC (by kernel_rfl) ?_)
               | ((first | with_reducible refine sB ?_ | with_reducible refine sG0 ?_ | with_reducible refine sG1 ?_ | refine sP (by rfl) ?_); first | refine Or.inl ⟨by first | assumption | (simp only [eqO, Ob.eta, Cl.eta, tt_true, tt_false, decide_eq_true_eq, decide_eq_false_iff_not, beq_iff_eq, beq_eq_false_iff_ne, bne_iff_ne, ne_eq, Bool.not_eq_true, Bool.not_eq_false, Bool.not_eq_eq_eq_not, Bool.not_true, Bool.not_false, Decidable.not_not, Int.not_lt, Int.not_le, gt_iff_lt, ge_iff_le, bne_eq_false_iff_eq, List.length_map, List.length_append, List.length_cons, List.length_nil, hw1]; first | done | assumption | omega), ?_⟩ | refine Or.inr (Or.inl ⟨by first | assumption | (simp only [eqO, Ob.eta, Cl.eta, tt_true, tt_false, decide_eq_true_eq, decide_eq_false_iff_not, beq_iff_eq, beq_eq_false_iff_ne, bne_iff_ne, ne_eq, Bool.not_eq_true, Bool.not_eq_false, Bool.not_eq_eq_eq_not, Bool.not_true, Bool.not_false, Decidable.not_not, Int.not_lt, Int.not_le, gt_iff_lt, ge_iff_le, bne_eq_false_iff_eq, List.length_map, List.length_append, List.length_cons, List.length_nil, hw1]; first | done | assumption | omega), ?_⟩) | (refine Or.inr (Or.inr ⟨fun hsp => ?_, fun hsp => ?_⟩) <;> (try simp only [eqO, Ob.eta, Cl.eta, tt_true, tt_false, decide_eq_true_eq, decide_eq_false_iff_not, beq_iff_eq, beq_eq_false_iff_ne, bne_iff_ne, ne_eq, Bool.not_eq_true, Bool.not_eq_false, Bool.not_eq_eq_eq_not, Bool.not_true, Bool.not_false, Decidable.not_not, Int.not_lt, Int.not_le, gt_iff_lt, ge_iff_le, bne_eq_false_iff_eq, List.length_map, List.length_append, List.length_cons, List.length_nil, hw1] at hsp) <;> try subst hsp))
               | refine ⟨_, _, TdW11.ok C, ?_⟩
               | refine ⟨_, _, kh, ?_⟩
               | refine ⟨_, _, kc, ?_⟩
               | refine ⟨_, _, kt, ?_⟩
               | refine ⟨_, _, k1, ?_⟩
               | refine ⟨_, _, k2, ?_⟩
               | refine ⟨_, _, k3, ?_⟩
               | refine ⟨_, _, kN, ?_⟩
               | refine ⟨_, _, kca, ?_⟩
               | refine ⟨_, _, (by rw [show List.drop (Int.toNat 0) (List.take (h.length : Int).toNat (h ++ [c3])) = h by simp]; exact kS), ?_⟩
               | refine ⟨_, _, (by have k := ok_heap_PutBytes_bad C h o hon a s (by rw [e6]; decide); rw [e6] at k; rw [ha, hse] at k; exact k), ?_⟩
               | refine ⟨_, _, kP, ?_⟩
               | refine sS (sslice_min (by rfl) (by rfl) (by decide)) ?_
               | refine sS (slice_M (f := encC) (l := h ++ [c3]) (a := 0) (h := (h.length : Int)) (by rfl) (by rfl) (by rfl) (by omega) (by omega) (by simp; omega)) ?_
               | fail)
    all_goals (conv => whnf)
    intro X hX hWX
    refine loopI hX (fun st (i : Nat) => st.upd [(205, .pv (pI (i : Int)))] []) (fun i k => i + k = h.length) 0 h.length (by (conv => whnf); first | done | rfl) (by simp) ?_
    intro m i ih hI
    rcases at_or h i with ⟨x, hlt, hx⟩ | hge
    · have hrow := row_map (f := encC) hx
      have kX := ok_ref11_SameCell C x x (small_big9 hs |>.2 x (List.mem_of_getElem? hx))
      rw [ttT' rfl] at kX
      repeat' (conv => whnf
               first
                 | (with_reducible refine sC (by kernel_rfl) ?_)
                 | ((first | with_reducible refine sB ?_ | with_reducible refine sG0 ?_ | with_reducible refine sG1 ?_ | refine sP (by rfl) ?_); first | refine oT ?_ | refine oF ?_ | (refine Or.inr (Or.inr ⟨fun hsp => ?_, fun hsp => ?_⟩) <;> (try simp only [eqO, Ob.eta, Cl.eta, tt_true, tt_false, decide_eq_true_eq, decide_eq_false_iff_not, beq_iff_eq, beq_eq_false_iff_ne, bne_iff_ne, ne_eq, Bool.not_eq_true, Bool.not_eq_false, Bool.not_eq_eq_eq_not, Bool.not_true, Bool.not_false, Decidable.not_not, Int.not_lt, Int.not_le, gt_iff_lt, ge_iff_le, bne_eq_false_iff_eq, List.length_map] at hsp) <;> try subst hsp))
                 | refine ⟨_, _, (okc_arg kQ (.cons (.refl _) (.cons (.refl _) (.cons (.refl _) (.cons (.emp 7) .nil))))), ?_⟩
                 | refine ⟨_, _, kX, ?_⟩
                 | refine sS (iaddr_at (by rfl) (by rfl) (by omega) hrow) ?_
                 | fail)
      all_goals (conv => whnf)
      all_goals (refine ih (m - 1) (i + 1) _ (by omega) (by (try dsimp only); omega) (by (conv => whnf); first | done | rfl | (simp (disch := omega) only [wrap_succ])))
    · repeat' (conv => whnf
               first
                 | (with_reducible refine sC (by kernel_rfl) ?_)
                 | ((first | with_reducible refine sB ?_ | with_reducible refine sG0 ?_ | with_reducible refine sG1 ?_ | refine sP (by rfl) ?_); first | refine oT ?_ | refine oF ?_ | (refine Or.inr (Or.inr ⟨fun hsp => ?_, fun hsp => ?_⟩) <;> (try simp only [eqO, Ob.eta, Cl.eta, tt_true, tt_false, decide_eq_true_eq, decide_eq_false_iff_not, beq_iff_eq, beq_eq_false_iff_ne, bne_iff_ne, ne_eq, Bool.not_eq_true, Bool.not_eq_false, Bool.not_eq_eq_eq_not, Bool.not_true, Bool.not_false, Decidable.not_not, Int.not_lt, Int.not_le, gt_iff_lt, ge_iff_le, bne_eq_false_iff_eq, List.length_map] at hsp) <;> try subst hsp))
                 | fail)
      all_goals (conv => whnf)
      all_goals exact PV.le.refl _
  · have kP := ok_heap_PutItems_packed C h o hon a [p, q] e78 hk
    rw [ha] at kP
    have kQ := ok_heap_PutItems_packed C h o hon 0 [] e78 hk
    repeat' (conv => whnf
             first
               | (with_reducible refine sC (by kernel_rfl) ?_)
               | ((first | with_reducible refine sB ?_ | with_reducible refine sG0 ?_ | with_reducible refine sG1 ?_ | refine sP (by rfl) ?_); first | refine Or.inl ⟨by first | assumption | (simp only [eqO, Ob.eta, Cl.eta, tt_true, tt_false, decide_eq_true_eq, decide_eq_false_iff_not, beq_iff_eq, beq_eq_false_iff_ne, bne_iff_ne, ne_eq, Bool.not_eq_true, Bool.not_eq_false, Bool.not_eq_eq_eq_not, Bool.not_true, Bool.not_false, Decidable.not_not, Int.not_lt, Int.not_le, gt_iff_lt, ge_iff_le, bne_eq_false_iff_eq, List.length_map, List.length_append, List.length_cons, List.length_nil, hw1]; first | done | assumption | omega), ?_⟩ | refine Or.inr (Or.inl ⟨by first | assumption | (simp only [eqO, Ob.eta, Cl.eta, tt_true, tt_false, decide_eq_true_eq, decide_eq_false_iff_not, beq_iff_eq, beq_eq_false_iff_ne, bne_iff_ne, ne_eq, Bool.not_eq_true, Bool.not_eq_false, Bool.not_eq_eq_eq_not, Bool.not_true, Bool.not_false, Decidable.not_not, Int.not_lt, Int.not_le, gt_iff_lt, ge_iff_le, bne_eq_false_iff_eq, List.length_map, List.length_append, List.length_cons, List.length_nil, hw1]; first | done | assumption | omega), ?_⟩) | (refine Or.inr (Or.inr ⟨fun hsp => ?_, fun hsp => ?_⟩) <;> (try simp only [eqO, Ob.eta, Cl.eta, tt_true, tt_false, decide_eq_true_eq, decide_eq_false_iff_not, beq_iff_eq, beq_eq_false_iff_ne, bne_iff_ne, ne_eq, Bool.not_eq_true, Bool.not_eq_false, Bool.not_eq_eq_eq_not, Bool.not_true, Bool.not_false, Decidable.not_not, Int.not_lt, Int.not_le, gt_iff_lt, ge_iff_le, bne_eq_false_iff_eq, List.length_map, List.length_append, List.length_cons, List.length_nil, hw1] at hsp) <;> try subst hsp))
               | refine ⟨_, _, TdW11.ok C, ?_⟩
               | refine ⟨_, _, kh, ?_⟩
               | refine ⟨_, _, kc, ?_⟩
               | refine ⟨_, _, kt, ?_⟩
               | refine ⟨_, _, k1, ?_⟩
               | refine ⟨_, _, k2, ?_⟩
               | refine ⟨_, _, k3, ?_⟩
               | refine ⟨_, _, kN, ?_⟩
               | refine ⟨_, _, kca, ?_⟩
               | refine ⟨_, _, (by rw [show List.drop (Int.toNat 0) (List.take (h.length : Int).toNat (h ++ [c3])) = h by simp]; exact kS), ?_⟩
               | refine ⟨_, _, (by have k := ok_heap_PutBytes_bad C h o hon a s (by rw [e6]; decide); rw [e6] at k; rw [ha, hse] at k; exact k), ?_⟩
               | refine ⟨_, _, kP, ?_⟩
               | refine sS (sslice_min (by rfl) (by rfl) (by decide)) ?_
               | refine sS (slice_M (f := encC) (l := h ++ [c3]) (a := 0) (h := (h.length : Int)) (by rfl) (by rfl) (by rfl) (by omega) (by omega) (by simp; omega)) ?_
               | fail)
    all_goals (conv => whnf)
    intro X hX hWX
    refine loopI hX (fun st (i : Nat) => st.upd [(205, .pv (pI (i : Int)))] []) (fun i k => i + k = h.length) 0 h.length (by (conv => whnf); first | done | rfl) (by simp) ?_
    intro m i ih hI
    rcases at_or h i with ⟨x, hlt, hx⟩ | hge
    · have hrow := row_map (f := encC) hx
      have kX := ok_ref11_SameCell C x x (small_big9 hs |>.2 x (List.mem_of_getElem? hx))
      rw [ttT' rfl] at kX
      repeat' (conv => whnf
               first
                 | (with_reducible refine sC (by kernel_rfl) ?_)
                 | ((first | with_reducible refine sB ?_ | with_reducible refine sG0 ?_ | with_reducible refine sG1 ?_ | refine sP (by rfl) ?_); first | refine oT ?_ | refine oF ?_ | (refine Or.inr (Or.inr ⟨fun hsp => ?_, fun hsp => ?_⟩) <;> (try simp only [eqO, Ob.eta, Cl.eta, tt_true, tt_false, decide_eq_true_eq, decide_eq_false_iff_not, beq_iff_eq, beq_eq_false_iff_ne, bne_iff_ne, ne_eq, Bool.not_eq_true, Bool.not_eq_false, Bool.not_eq_eq_eq_not, Bool.not_true, Bool.not_false, Decidable.not_not, Int.not_lt, Int.not_le, gt_iff_lt, ge_iff_le, bne_eq_false_iff_eq, List.length_map] at hsp) <;> try subst hsp))
                 | refine ⟨_, _, (okc_arg kQ (.cons (.refl _) (.cons (.refl _) (.cons (.refl _) (.cons (.emp 7) .nil))))), ?_⟩
                 | refine ⟨_, _, kX, ?_⟩
                 | refine sS (iaddr_at (by rfl) (by rfl) (by omega) hrow) ?_
                 | fail)
      all_goals (conv => whnf)
      all_goals (refine ih (m - 1) (i + 1) _ (by omega) (by (try dsimp only); omega) (by (conv => whnf); first | done | rfl | (simp (disch := omega) only [wrap_succ])))
    · repeat' (conv => whnf
               first
                 | (with_reducible refine sC (by kernel_rfl) ?_)
                 | ((first | with_reducible refine sB ?_ | with_reducible refine sG0 ?_ | with_reducible refine sG1 ?_ | refine sP (by rfl) ?_); first | refine oT ?_ | refine oF ?_ | (refine Or.inr (Or.inr ⟨fun hsp => ?_, fun hsp => ?_⟩) <;> (try simp only [eqO, Ob.eta, Cl.eta, tt_true, tt_false, decide_eq_true_eq, decide_eq_false_iff_not, beq_iff_eq, beq_eq_false_iff_ne, bne_iff_ne, ne_eq, Bool.not_eq_true, Bool.not_eq_false, Bool.not_eq_eq_eq_not, Bool.not_true, Bool.not_false, Decidable.not_not, Int.not_lt, Int.not_le, gt_iff_lt, ge_iff_le, bne_eq_false_iff_eq, List.length_map] at hsp) <;> try subst hsp))
                 | fail)
      all_goals (conv => whnf)
      all_goals exact PV.le.refl _
  · have kQ := ok_heap_PutItems_bad C h o hon 0 [] (by rw [e78]; decide)
    rw [e78] at kQ
    repeat' (conv => whnf
             first
               | (with_reducible refine sC (by kernel_rfl) ?_)
               | ((first | with_reducible refine sB ?_ | with_reducible refine sG0 ?_ | with_reducible refine sG1 ?_ | refine sP (by rfl) ?_); first | refine Or.inl ⟨by first | assumption | (simp only [eqO, Ob.eta, Cl.eta, tt_true, tt_false, decide_eq_true_eq, decide_eq_false_iff_not, beq_iff_eq, beq_eq_false_iff_ne, bne_iff_ne, ne_eq, Bool.not_eq_true, Bool.not_eq_false, Bool.not_eq_eq_eq_not, Bool.not_true, Bool.not_false, Decidable.not_not, Int.not_lt, Int.not_le, gt_iff_lt, ge_iff_le, bne_eq_false_iff_eq, List.length_map, List.length_append, List.length_cons, List.length_nil, hw1]; first | done | assumption | omega), ?_⟩ | refine Or.inr (Or.inl ⟨by first | assumption | (simp only [eqO, Ob.eta, Cl.eta, tt_true, tt_false, decide_eq_true_eq, decide_eq_false_iff_not, beq_iff_eq, beq_eq_false_iff_ne, bne_iff_ne, ne_eq, Bool.not_eq_true, Bool.not_eq_false, Bool.not_eq_eq_eq_not, Bool.not_true, Bool.not_false, Decidable.not_not, Int.not_lt, Int.not_le, gt_iff_lt, ge_iff_le, bne_eq_false_iff_eq, List.length_map, List.length_append, List.length_cons, List.length_nil, hw1]; first | done | assumption | omega), ?_⟩) | (refine Or.inr (Or.inr ⟨fun hsp => ?_, fun hsp => ?_⟩) <;> (try simp only [eqO, Ob.eta, Cl.eta, tt_true, tt_false, decide_eq_true_eq, decide_eq_false_iff_not, beq_iff_eq, beq_eq_false_iff_ne, bne_iff_ne, ne_eq, Bool.not_eq_true, Bool.not_eq_false, Bool.not_eq_eq_eq_not, Bool.not_true, Bool.not_false, Decidable.not_not, Int.not_lt, Int.not_le, gt_iff_lt, ge_iff_le, bne_eq_false_iff_eq, List.length_map, List.length_append, List.length_cons, List.length_nil, hw1] at hsp) <;> try subst hsp))
               | refine ⟨_, _, TdW11.ok C, ?_⟩
               | refine ⟨_, _, kh, ?_⟩
               | refine ⟨_, _, kc, ?_⟩
               | refine ⟨_, _, kt, ?_⟩
               | refine ⟨_, _, k1, ?_⟩
               | refine ⟨_, _, k2, ?_⟩
               | refine ⟨_, _, k3, ?_⟩
               | refine ⟨_, _, kN, ?_⟩
               | refine ⟨_, _, kca, ?_⟩
               | refine ⟨_, _, (by rw [show List.drop (Int.toNat 0) (List.take (h.length : Int).toNat (h ++ [c3])) = h by simp]; exact kS), ?_⟩
               | refine ⟨_, _, (by have k := ok_heap_PutBytes_bad C h o hon a s (by rw [e6]; decide); rw [e6] at k; rw [ha, hse] at k; exact k), ?_⟩
               | refine ⟨_, _, (by have k := ok_heap_PutItems_bad C h o hon a [p, q] (by rw [e78]; decide); rw [e78] at k; rw [ha] at k; exact k), ?_⟩
               | refine sS (sslice_min (by rfl) (by rfl) (by decide)) ?_
               | refine sS (slice_M (f := encC) (l := h ++ [c3]) (a := 0) (h := (h.length : Int)) (by rfl) (by rfl) (by rfl) (by omega) (by omega) (by simp; omega)) ?_
               | fail)
    all_goals (conv => whnf)
    intro X hX hWX
    refine loopI hX (fun st (i : Nat) => st.upd [(205, .pv (pI (i : Int)))] []) (fun i k => i + k = h.length) 0 h.length (by (conv => whnf); first | done | rfl) (by simp) ?_
    intro m i ih hI
    rcases at_or h i with ⟨x, hlt, hx⟩ | hge
    · have hrow := row_map (f := encC) hx
      have kX := ok_ref11_SameCell C x x (small_big9 hs |>.2 x (List.mem_of_getElem? hx))
      rw [ttT' rfl] at kX
      repeat' (conv => whnf
               first
                 | (with_reducible refine sC (by kernel_rfl) ?_)
                 | ((first | with_reducible refine sB ?_ | with_reducible refine sG0 ?_ | with_reducible refine sG1 ?_ | refine sP (by rfl) ?_); first | refine oT ?_ | refine oF ?_ | (refine Or.inr (Or.inr ⟨fun hsp => ?_, fun hsp => ?_⟩) <;> (try simp only [eqO, Ob.eta, Cl.eta, tt_true, tt_false, decide_eq_true_eq, decide_eq_false_iff_not, beq_iff_eq, beq_eq_false_iff_ne, bne_iff_ne, ne_eq, Bool.not_eq_true, Bool.not_eq_false, Bool.not_eq_eq_eq_not, Bool.not_true, Bool.not_false, Decidable.not_not, Int.not_lt, Int.not_le, gt_iff_lt, ge_iff_le, bne_eq_false_iff_eq, List.length_map] at hsp) <;> try subst hsp))
                 | refine ⟨_, _, (okc_arg kQ (.cons (.refl _) (.cons (.refl _) (.cons (.refl _) (.cons (.emp 7) .nil))))), ?_⟩
                 | refine ⟨_, _, kX, ?_⟩
                 | refine sS (iaddr_at (by rfl) (by rfl) (by omega) hrow) ?_
                 | fail)
      all_goals (conv => whnf)
      all_goals (refine ih (m - 1) (i + 1) _ (by omega) (by (try dsimp only); omega) (by (conv => whnf); first | done | rfl | (simp (disch := omega) only [wrap_succ])))
    · repeat' (conv => whnf
               first
                 | (with_reducible refine sC (by kernel_rfl) ?_)
                 | ((first | with_reducible refine sB ?_ | with_reducible refine sG0 ?_ | with_reducible refine sG1 ?_ | refine sP (by rfl) ?_); first | refine oT ?_ | refine oF ?_ | (refine Or.inr (Or.inr ⟨fun hsp => ?_, fun hsp => ?_⟩) <;> (try simp only [eqO, Ob.eta, Cl.eta, tt_true, tt_false, decide_eq_true_eq, decide_eq_false_iff_not, beq_iff_eq, beq_eq_false_iff_ne, bne_iff_ne, ne_eq, Bool.not_eq_true, Bool.not_eq_false, Bool.not_eq_eq_eq_not, Bool.not_true, Bool.not_false, Decidable.not_not, Int.not_lt, Int.not_le, gt_iff_lt, ge_iff_le, bne_eq_false_iff_eq, List.length_map] at hsp) <;> try subst hsp))
                 | fail)
      all_goals (conv => whnf)
      all_goals exact PV.le.refl _
end Go.Ab.Td
