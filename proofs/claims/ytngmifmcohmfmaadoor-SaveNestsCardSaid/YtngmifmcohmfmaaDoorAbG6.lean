/- The abstract layer, part 6: values, steps, their soundness. Under: nothing. -/
import Derived.Test.YtngmifmcohmfmaaDoorAbG5
/- What a value may be taken for; functions whose results are so taken. Under: nothing. -/
namespace Go.Ab
open Go.RowKit

/-- A nil slice may be taken for any slice without rows, wherever it stands. -/
inductive PV.le : PV → PV → Prop
  | refl (p : PV) : PV.le p p
  | emp (es : Nat) : PV.le (.emp es) (.sl es [])
  | sl {es : Nat} {rows rows' : List (List PV)} (hl : rows.length = rows'.length) (hw : ∀ (i : Nat) (r r' : List PV), rows[i]? = some r → rows'[i]? = some r' → r.length = r'.length)
      (h : ∀ (i : Nat) (r r' : List PV) (j : Nat) (p q : PV), rows[i]? = some r → rows'[i]? = some r' → r[j]? = some p → r'[j]? = some q → PV.le p q) : PV.le (.sl es rows) (.sl es rows')
  | agg {ps qs : List PV} (hl : ps.length = qs.length) (h : ∀ (j : Nat) (p q : PV), ps[j]? = some p → qs[j]? = some q → PV.le p q) : PV.le (.agg ps) (.agg qs)
  | tup {ps qs : List PV} (hl : ps.length = qs.length) (h : ∀ (j : Nat) (p q : PV), ps[j]? = some p → qs[j]? = some q → PV.le p q) : PV.le (.tup ps) (.tup qs)

theorem RepP.le {w : World} {I : Imm} {p q : PV} (h : PV.le p q) : ∀ {v : Value}, RepP w I v p → RepP w I v q := by
  induction h with
  | refl p => exact fun h => h
  | emp es => intro v h; cases h; exact rep_sl0 es
  | @sl es rows rows' hl hw _ ih =>
    intro v h
    cases h with
    | sl f k1 k2 k3 k4 k5 =>
      have at' : ∀ (i : Nat) (r' : List PV), rows'[i]? = some r' → ∃ r, rows[i]? = some r ∧ r.length = r'.length := by
        intro i r' h
        have hi : i < rows.length := by rw [hl]; exact (List.getElem?_eq_some_iff.1 h).1
        exact ⟨_, List.getElem?_eq_getElem hi, hw i _ r' (List.getElem?_eq_getElem hi) h⟩
      refine .sl f (hl ▸ k1) k2 (fun i r' h => ?_) (fun hne => ?_) (fun i j r' q h1 h2 => ?_)
      · obtain ⟨r, hr, he⟩ := at' i r' h
        exact he ▸ k3 i r hr
      · obtain ⟨a, ha, hs, hx⟩ := k4 (fun e => hne (List.length_eq_zero_iff.1 (by rw [← hl, e]; rfl)))
        exact ⟨a, ha, hs, fun i j hi hj => hx i j (hl ▸ hi) hj⟩
      · obtain ⟨r, hr, he⟩ := at' i r' h1
        have hj : j < r.length := by rw [he]; exact (List.getElem?_eq_some_iff.1 h2).1
        exact ih i r r' j _ q hr h1 (List.getElem?_eq_getElem hj) h2 (k5 i j r _ hr (List.getElem?_eq_getElem hj))
  | agg hl _ ih =>
    intro v h
    cases h with
    | agg k1 k2 =>
      refine .agg (k1.trans hl) fun j x q hx hq => ?_
      have hj : j < _ := (List.getElem?_eq_some_iff.1 hq).1
      rw [← hl] at hj
      exact ih j _ q (List.getElem?_eq_getElem hj) hq (k2 j x _ hx (List.getElem?_eq_getElem hj))
  | tup hl _ ih =>
    intro v h
    cases h with
    | tup k1 k2 =>
      refine .tup (k1.trans hl) fun j x q hx hq => ?_
      have hj : j < _ := (List.getElem?_eq_some_iff.1 hq).1
      rw [← hl] at hj
      exact ih j _ q (List.getElem?_eq_getElem hj) hq (k2 j x _ hx (List.getElem?_eq_getElem hj))

theorem le_of_eq {p q : PV} (h : p = q) : PV.le p q := h ▸ .refl p

/-- Pointwise. -/
inductive LeL : List PV → List PV → Prop
  | nil : LeL [] []
  | cons {p q : PV} {ps qs : List PV} (h : PV.le p q) (t : LeL ps qs) : LeL (p :: ps) (q :: qs)

theorem LeL.refl : ∀ l : List PV, LeL l l
  | [] => .nil
  | p :: l => .cons (.refl p) (LeL.refl l)
theorem LeL.len : ∀ {ps qs : List PV}, LeL ps qs → ps.length = qs.length
  | _, _, .nil => rfl
  | _, _, .cons _ t => by simp [t.len]
theorem LeL.get : ∀ {ps qs : List PV}, LeL ps qs → ∀ (j : Nat) (p q : PV), ps[j]? = some p → qs[j]? = some q → PV.le p q
  | _, _, .cons h _, 0, p, q, h1, h2 => by simp at h1 h2; subst h1 h2; exact h
  | _, _, .cons _ t, j + 1, p, q, h1, h2 => by simp at h1 h2; exact t.get j p q h1 h2
theorem le_agg {ps qs : List PV} (h : LeL ps qs) : PV.le (.agg ps) (.agg qs) := .agg h.len h.get
theorem le_tup {ps qs : List PV} (h : LeL ps qs) : PV.le (.tup ps) (.tup qs) := .tup h.len h.get

inductive LeR : List (List PV) → List (List PV) → Prop
  | nil : LeR [] []
  | cons {r r' : List PV} {rs rs' : List (List PV)} (h : LeL r r') (t : LeR rs rs') : LeR (r :: rs) (r' :: rs')
theorem LeR.refl : ∀ l : List (List PV), LeR l l
  | [] => .nil
  | p :: l => .cons (.refl p) (LeR.refl l)
theorem LeR.len : ∀ {ps qs : List (List PV)}, LeR ps qs → ps.length = qs.length
  | _, _, .nil => rfl
  | _, _, .cons _ t => by simp [t.len]
theorem LeR.get : ∀ {ps qs : List (List PV)}, LeR ps qs → ∀ (j : Nat) (p q : List PV), ps[j]? = some p → qs[j]? = some q → LeL p q
  | _, _, .cons h _, 0, p, q, h1, h2 => by simp at h1 h2; subst h1 h2; exact h
  | _, _, .cons _ t, j + 1, p, q, h1, h2 => by simp at h1 h2; exact t.get j p q h1 h2
theorem LeR.append : ∀ {a b c d : List (List PV)}, LeR a b → LeR c d → LeR (a ++ c) (b ++ d)
  | _, _, _, _, .nil, h => h
  | _, _, _, _, .cons h t, k => .cons h (t.append k)
theorem le_sl {es : Nat} {a b : List (List PV)} (h : LeR a b) : PV.le (.sl es a) (.sl es b) := .sl h.len (fun i r r' h1 h2 => (h.get i r r' h1 h2).len) (fun i r r' j p q h1 h2 => (h.get i r r' h1 h2).get j p q)

section
variable {P : Program} {G : Gl}

/-- Arguments may be taken for others. -/
theorem okc_arg {g : Nat} {ps qs : List PV} {own : Own} {r : PV} (h : OkC P G g qs own r) (hl : LeL ps qs) : OkC P G g ps own r := by
  intro w I vs hb hg ha
  refine h w I vs hb hg ⟨ha.1.trans hl.len, fun j x q hx hq => ?_⟩
  have hj : j < ps.length := by rw [hl.len]; exact (List.getElem?_eq_some_iff.1 hq).1
  exact (ha.2 j x _ hx (List.getElem?_eq_getElem hj)).le (hl.get j _ q (List.getElem?_eq_getElem hj) hq)

/-- The end of a function: the result is taken for r. -/
def retV (G : Gl) (rs : List RRes) (r : PV) (e : Ex) (st : St) : Prop :=
  match e with
  | .exit _ => False
  | _ => match resAs G st rs with
    | some vs => (match pub st.σ 8 (resPV vs) with
      | some (p, _) => PV.le p r
      | none => False)
    | none => False

def fnV (G : Gl) (Ok : Nat → List PV → Own → PV → Prop) (ext : Nat → Option RunI) (tab tabI : Nat → Option RFn) (d : Nat) (f : RFn) (args : List PV) (r : PV) : Prop :=
  argsK 0 args .nil fun tm => aw G Ok f.body true (envD G Ok ext tab tabI d) (retV G f.res r) { tm := tm, σ := [], nx := 0, nt := f.ntmps }

theorem ok_of_fnV {g : Nat} {c : RFn} {ps : List PV} {r : PV} (hm : P.follows .mixedOrders = true) (hk : chkFn P g c = true) {ext : Nat → Option RunI} (hext : InlOk P G fun g => (ext g).map extH) {tab tabI : Nat → Option RFn} (htab : ∀ g c, tab g = some c → chkFn P g c = true) (htabI : ∀ g c, tabI g = some c → chkItr P g c = true) {d : Nat}
    (hl : ps.length = c.nparams) (h : fnV G (OkC P G) ext tab tabI d c ps r) : OkC P G g ps [] r := by
  obtain ⟨fn, code, hf⟩ := chkFn_spec hk
  intro w I vs hbnd hglob hargs
  refine ⟨hf.enter vs, callsIn_of_wp_marks hf.func hf.body trivial ?_⟩
  simp only [fnV, argsK_eq] at h
  rw [hf.nt]
  have hcore : Core w.heap.size w I w I (fun _ => none) [] (fun _ => False) := ⟨⟨hbnd, fun b o h => by simp [find] at h, fun b b' o o' r h => by simp [find] at h, fun b o r h => by simp [find] at h, fun b o r k h => by simp [find] at h, fun b o h => by simp [find] at h⟩,
    Below.refl _ _, Nat.le_refl _, fun _ _ h => h, fun _ _ _ h => h⟩
  have hsim := start_sim (gs := fun _ _ => False) (D0 := fun _ => True) (n0 := 0) (keep := fun _ _ => False) (nx := 0) (as := ps.map .pv) (vs := vs) (nt := c.ntmps) hcore (fun b h => h.elim) hglob (by rw [List.length_map]; exact hargs.1)
    (fun j x q hx hq => by
      rw [List.getElem?_map, Option.map_eq_some_iff] at hq
      obtain ⟨p, hp, rfl⟩ := hq
      exact .pv (hargs.2 j x p hx hp)) (fun _ _ h => h.elim) (fun b h => h.elim) (Nat.le_refl _) (fun _ _ h => h.elim) (by rw [List.length_map]; have := hf.np; omega) (by rw [List.length_map]; have := hf.np'; omega)
  have hE : EnvOk P G (envD G (OkC P G) ext tab tabI d) none w.heap.size w I Gh.top := ⟨(envD_ok hm hext htab htabI d).1, (envD_ok hm hext htab htabI d).2, (fun _ h => by cases h), (fun b h e => by cases d <;> simp [envD] at e), fun n h => by cases d <;> simp [envD] at h⟩
  refine wpIn_mono (aw_sound (ro := none) hE hm (fun _ => rfl) c.body code hf.code _ _ _ _ h hsim) fun e a w' he => ?_
  have fin : ∀ s, (match resAs G s c.res with | some vs => (match pub s.σ 8 (resPV vs) with | some (p, _) => PV.le p r | none => False) | none => False) → SimT P G w.heap.size w I .top c.ntmps s a w' →
      LeavesInM Fence.wide 0 P fn a.tmps (CallPost w I [] r) a.defers .returning w' := by
    intro s hs ⟨_, _, I₁, ι, D, hx⟩
    split at hs
    · rename_i vs' hvs
      split at hs
      · rename_i p m hp
        obtain ⟨rs, m1, m2, m3⟩ := hx.dfs
        refine leaves_of (gh := Gh.top) hf.res hvs rs a.defers w' m1 m2 m3 hx fun w₂ v hx hrep => ?_
        obtain ⟨hs', hL⟩ := SimS.sealO hx.core.sims m
        have hpv := pub_rep (M := m) hx.core.sims 8 _ _ _ _ hp (fun b h => h) hrep
        refine ⟨sealI I₁ ι s.σ m, hx.core.below, fun a k h => .inl (hx.core.ext a k h), fun a k hlt h => ?_, fun nm => ⟨fun _ => none, ?_, .pv (hpv.le hs)⟩⟩
        · rcases h with h | ⟨b, o, _, hf, _, hr, _⟩
          · exact hx.core.old a k hlt h
          · have := hx.core.sims.ge b o a hf hr; omega
        · exact ⟨hs'.bnd, fun b o h => by simp [imp, upAll, find] at h, fun b b' o o' r h => by simp [imp, upAll, find] at h, fun b o r h => by simp [imp, upAll, find] at h, fun b o r k h => by simp [imp, upAll, find] at h, fun b o h => by simp [imp, upAll, find] at h⟩
      · exact hs.elim
    · exact hs.elim
  cases e with
  | normal => obtain ⟨s, hq, hs⟩ := he; exact fin s hq hs
  | ret => obtain ⟨s, hq, hs⟩ := he; exact fin s hq hs
  | exit i => obtain ⟨s, hq, hs⟩ := he; exact hq.elim
  | goto l => exact he.elim
  | panic ch => exact he.elim
  | outgrown => exact he.elim
end
end Go.Ab

/- More helps for runs with symbols. Under: nothing. -/
namespace Go.Ab
open Go.RowKit

section
variable {A B : Prop}
end

/-- A part of a slice. -/
theorem slice_at {σ : Store} {nm es : Nat} {ev : RA → AV} {x : RA} {lo hi : Option RA} {rows : List (List PV)} {l h : Int} (hx : ev x = .pv (.sl es rows)) (hl : optIdx ev 0 lo = some l) (hh : optIdx ev rows.length hi = some h) (h1 : 0 ≤ l) (h2 : l ≤ h) (h3 : h ≤ rows.length) :
    step σ nm ev (.slice es x lo hi none) = some { v := .pv (.sl es ((rows.take h.toNat).drop l.toNat)) } := by
  simp only [step, hx, AV.e, if_true, step.sliceP, hl, hh, show optIdx ev (rows.length : Int) none = some (rows.length : Int) from rfl]
  rw [if_pos ⟨h1, h2, h3, Int.le_refl _⟩]
  rfl
theorem slice_f {σ : Store} {nm es : Nat} {ev : RA → AV} {x : RA} {lo hi : Option RA} {rows : List (List PV)} {l h : Int} (hx : ev x = .fsl es rows) (hl : optIdx ev 0 lo = some l) (hh : optIdx ev rows.length hi = some h) (h1 : 0 ≤ l) (h2 : l ≤ h) (h3 : h ≤ rows.length) :
    step σ nm ev (.slice es x lo hi none) = some { v := .pv (.sl es ((rows.take h.toNat).drop l.toNat)) } := by
  simp only [step, hx, AV.e, if_true, step.sliceP, hl, hh, show optIdx ev (rows.length : Int) none = some (rows.length : Int) from rfl]
  rw [if_pos ⟨h1, h2, h3, Int.le_refl _⟩]
  rfl
theorem slice_m {σ : Store} {nm es : Nat} {ev : RA → AV} {x m : RA} {lo hi : Option RA} {rows : List (List PV)} {l h k : Int} (hx : ev x = .pv (.sl es rows)) (hl : optIdx ev 0 lo = some l) (hh : optIdx ev rows.length hi = some h) (hm : optIdx ev rows.length (some m) = some k) (h1 : 0 ≤ l) (h2 : l ≤ h) (h3 : h = k) (h4 : k ≤ rows.length) :
    step σ nm ev (.slice es x lo hi (some m)) = some { v := .fsl es ((rows.take h.toNat).drop l.toNat) } := by
  subst h3
  simp [step, step.sliceP, Eff.of, hx, AV.e, hl, hh, hm, h1, h2, h4]
theorem sslice_lh {σ : Store} {nm : Nat} {ev : RA → AV} {x : RA} {lo hi : Option RA} {s : List UInt8} {l h : Int} (hx : ev x = .pv (.str s)) (hl : optIdx ev 0 lo = some l) (hh : optIdx ev s.length hi = some h) (h1 : 0 ≤ l) (h2 : l ≤ h) (h3 : h ≤ s.length) :
    step σ nm ev (.sslice x lo hi) = some { v := .pv (.str ((s.take h.toNat).drop l.toNat)) } := by
  simp [step, Eff.of, hx, hl, hh, h1, h2, h3]
theorem append_emp {σ : Store} {nm es bytes : Nat} {ev : RA → AV} {s x : RA} {e : Nat} {xs : List (List PV)} {rd : List Nat} (hs : (ev s).e = .emp e) (hr : rowsOf σ es (ev x) = some (xs.map (·.map .pv), rd)) (hb : xs.length * bytes ≤ 2 ^ 40) :
    step σ nm ev (.append es bytes s x) = some { v := .own nm 0 xs.length, rd := rd, up := [(nm, some (mkObj es (xs.map (·.map .pv))))] } := by
  simp only [step, hs, hr, List.length_map]
  rw [if_pos hb]
theorem append_f {σ : Store} {nm es bytes : Nat} {ev : RA → AV} {s x : RA} {rows xs : List (List PV)} {rd : List Nat} (hs : ev s = .fsl es rows) (hx : prowsOf σ es (ev x) = some (xs, rd)) (hb : (rows.length + xs.length) * bytes ≤ 2 ^ 40) :
    step σ nm ev (.append es bytes s x) = some { v := .pv (.sl es (rows ++ xs)), rd := rd } := by
  simp only [step, hs, AV.e, hx]
  rw [if_pos ⟨hb, trivial⟩]
theorem append_o {σ : Store} {nm es bytes c : Nat} {ev : RA → AV} {s x : RA} {b : Nat} {L xs : List (List PV)} {sl : Bool} {rd : List Nat} (hs : ev s = .own b 0 c) (hf : find σ b = some (.arr es L sl)) (hc : L.length = c) (hx : prowsOf σ es (ev x) = some (xs, rd)) (hb : (c + xs.length) * bytes ≤ 2 ^ 40) :
    step σ nm ev (.append es bytes s x) = some { v := .own nm 0 (c + xs.length), rd := b :: rd, up := [(b, none), (nm, some (.arr es (L ++ xs) sl))] } := by
  simp only [step, hs, AV.e, hf, hc, and_self, if_true, hx]
  rw [if_pos hb]
theorem prows_own {σ : Store} {es b i n : Nat} {a : AV} {rows : List (List PV)} {sl : Bool} (ha : a = .own b i n) (hf : find σ b = some (.arr es rows sl)) : prowsOf σ es a = some ((rows.drop i).take n, [b]) := by
  subst ha; simp [prowsOf, AV.e, hf]
theorem prows_pv {σ : Store} {es : Nat} {rows : List (List PV)} : prowsOf σ es (.pv (.sl es rows)) = some (rows, []) := by simp [prowsOf, AV.e]
theorem prows_fsl {σ : Store} {es : Nat} {rows : List (List PV)} : prowsOf σ es (.fsl es rows) = some (rows, []) := by simp [prowsOf, AV.e]
/-! ### Loops -/

/-- The state of a round stands for another one: the same, once normed. -/
def SameS (live : List Nat) (s s' : St) : Prop := normK live s' fun n' => normK live s fun n => n = n'

theorem loopGo {X : St → Prop} {live : List Nat} {F : St → Prop} (hX : ∀ s, normK live s F → X s) {s s' : St} (h : SameS live s s') (g : normK live s' F) : X s := by
  refine hX s ?_
  simp only [SameS, normK_eq] at h g ⊢
  rw [h]; exact g

theorem SameS.rfl {live : List Nat} {s : St} : SameS live s s := by simp only [SameS, normK_eq]

/-- A state with other temporaries and blocks. -/
def updT : T → List (Nat × AV) → T
  | t, [] => t
  | t, (n, v) :: l => updT (t.set tdepth n v) l
def updS : Store → List (Nat × SObj) → Store
  | s, [] => s
  | s, (b, x) :: l => updS (upS s b (some x)) l
def St.upd (s : St) (ts : List (Nat × AV)) (bs : List (Nat × SObj)) : St := ⟨updT s.tm ts, updS s.σ bs, s.nx, s.nt⟩

end Go.Ab
namespace Go.Ab
section
variable {A A' C : Prop} {b : Bool}
theorem stuckG1 (hT : b = true → A) (hF : b = false → C) : (match (generalizing := false) b, true with | true, true => A | false, false => A' | _, _ => C) := by
  cases b with
  | true => exact hT rfl
  | false => exact hF rfl
theorem stuckG0 (hT : b = true → C) (hF : b = false → A') : (match (generalizing := false) b, false with | true, true => A | false, false => A' | _, _ => C) := by
  cases b with
  | true => exact hT rfl
  | false => exact hF rfl
end
end Go.Ab
namespace Go.Ab
theorem pickT {σ : Store} {nm : Nat} {ev : RA → AV} {c x y : RA} {b : Bool} (hc : ev c = .pv (.bool b)) (h : b = true) : step σ nm ev (.pick c x y) = some { v := ev x } := by
  subst h; simp [step, hc, Eff.of]
theorem pickF {σ : Store} {nm : Nat} {ev : RA → AV} {c x y : RA} {b : Bool} (hc : ev c = .pv (.bool b)) (h : b = false) : step σ nm ev (.pick c x y) = some { v := ev y } := by
  subst h; simp [step, hc, Eff.of]
end Go.Ab
namespace Go.Ab
theorem stuckPk {σ : Store} {nm : Nat} {ev : RA → AV} {c x y : RA} {b : Bool} {K : Eff → Prop} (hc : ev c = .pv (.bool b)) (hT : b = true → K { v := ev x }) (hF : b = false → K { v := ev y }) :
    (match (generalizing := false) step σ nm ev (.pick c x y) with | some e => K e | none => False) := by
  cases b with
  | true => exact stuckStep (pickT hc rfl) (hT rfl)
  | false => exact stuckStep (pickF hc rfl) (hF rfl)
end Go.Ab
namespace Go.Ab
section
variable {A A' B C : Prop} {b : Bool}
theorem sB (h : (b = true ∧ A) ∨ (b = false ∧ B) ∨ ((b = true → A) ∧ (b = false → B))) : upS.match_1 (fun _ => Prop) b (fun _ => A) (fun _ => B) := by
  rcases h with ⟨rfl, h⟩ | ⟨rfl, h⟩ | ⟨h1, h2⟩
  · exact h
  · exact h
  · cases b with
    | true => exact h1 rfl
    | false => exact h2 rfl
theorem sC {recs : List Rec} (h : compat [] recs = true) (hT : A) : upS.match_1 (fun _ => Prop) (compat [] recs) (fun _ => A) (fun _ => B) := by rw [h]; exact hT
theorem sG1 (h : (b = true ∧ A) ∨ (b = false ∧ C) ∨ ((b = true → A) ∧ (b = false → C))) : insW.match_1 (fun _ _ => Prop) b true (fun _ => A) (fun _ => A') (fun _ _ => C) := by
  rcases h with ⟨rfl, h⟩ | ⟨rfl, h⟩ | ⟨h1, h2⟩
  · exact h
  · exact h
  · exact stuckG1 h1 h2
theorem sG0 (h : (b = true ∧ C) ∨ (b = false ∧ A') ∨ ((b = true → C) ∧ (b = false → A'))) : insW.match_1 (fun _ _ => Prop) b false (fun _ => A) (fun _ => A') (fun _ _ => C) := by
  rcases h with ⟨rfl, h⟩ | ⟨rfl, h⟩ | ⟨h1, h2⟩
  · exact h
  · exact h
  · exact stuckG0 h1 h2
theorem sS {o : Option Eff} {e : Eff} {K : Eff → Prop} (h : o = some e) (hK : K e) : opW.match_5 (fun _ => Prop) o (fun e => K e) (fun _ => False) := by subst h; exact hK
theorem sP {σ : Store} {nm : Nat} {ev : RA → AV} {c x y : RA} {K : Eff → Prop} (hc : ev c = .pv (.bool b)) (h : (b = true ∧ K { v := ev x }) ∨ (b = false ∧ K { v := ev y }) ∨ ((b = true → K { v := ev x }) ∧ (b = false → K { v := ev y }))) :
    opW.match_5 (fun _ => Prop) (step σ nm ev (.pick c x y)) (fun e => K e) (fun _ => False) := by
  rcases h with ⟨h0, h⟩ | ⟨h0, h⟩ | ⟨h1, h2⟩
  · exact sS (pickT hc h0) h
  · exact sS (pickF hc h0) h
  · exact stuckPk hc h1 h2
end
end Go.Ab
namespace Go.Ab
theorem loopI {X : St → Prop} {live : List Nat} {F : St → Prop} (hX : ∀ s, normK live s F → X s) {st : St} {α : Sort _} (sh : St → α → St) (I : α → Nat → Prop) (a : α) (m : Nat) (h : SameS live st (sh st a)) (hI : I a m)
    (key : ∀ (m : Nat) (a : α), (∀ (m' : Nat) (a' : α) (s' : St), m' < m → I a' m' → SameS live s' (sh st a') → X s') → I a m → normK live (sh st a) F) : X st := by
  have all : ∀ (n m : Nat), m < n → ∀ (a : α) (s : St), I a m → SameS live s (sh st a) → X s := by
    intro n
    induction n with
    | zero => intro m hm; omega
    | succ n ihn => intro m hm a s hI hs; exact loopGo hX hs (key m a (fun m' a' s' hm' => ihn m' (by omega) a' s') hI)
  exact all (m + 1) m (by omega) a st hI h
theorem wrap_succ {i : Nat} (h : i < 2 ^ 62) : IntKind.i64.wrap ((i : Int) + 1) = ((i + 1 : Nat) : Int) := by rw [wrap_small (by omega) (by omega)]; omega
theorem row_map {α : Type} {f : α → List PV} {l : List α} {i : Nat} {x : α} (h : l[i]? = some x) : (l.map f)[((i : Nat) : Int).toNat]? = some (f x) := by simp [h]
theorem drop_at {α : Type} {l : List α} {i : Nat} {x : α} (h : l[i]? = some x) : l.drop i = x :: l.drop (i + 1) := by
  obtain ⟨hi, he⟩ := List.getElem?_eq_some_iff.1 h
  rw [List.drop_eq_getElem_cons hi, he]
theorem at_or {α : Type} (l : List α) (i : Nat) : (∃ x, i < l.length ∧ l[i]? = some x) ∨ l.length ≤ i := by
  rcases Nat.lt_or_ge i l.length with h | h
  · exact .inl ⟨_, h, List.getElem?_eq_getElem h⟩
  · exact .inr h
end Go.Ab
namespace Go.Ab
end Go.Ab

/- Objects and cells. Under: nothing. -/
namespace Go.Ab

structure Ob where
  kind : Int
  exec : Bool
  n : Int
  name : List UInt8
  ref : Int
  off : Int
  len : Int
  deriving DecidableEq

structure Cl where
  kind : Int
  bytes : List UInt8
  items : List Ob
  keys : List Ob
  vals : List Ob
  max : Int
  at' : Int
  deriving DecidableEq

def encO (o : Ob) : List PV := [.int .i64 o.kind, .bool o.exec, .int .i64 o.n, .str o.name, .int .i64 o.ref, .int .i64 o.off, .int .i64 o.len]
def encC (c : Cl) : List PV := [.int .i64 c.kind, .str c.bytes, .sl 7 (c.items.map encO), .sl 7 (c.keys.map encO), .sl 7 (c.vals.map encO), .int .i64 c.max, .int .i64 c.at']
abbrev aO (o : Ob) : PV := .agg (encO o)
abbrev pI (n : Int) : PV := .int .i64 n

theorem Ob.eta (o : Ob) : (⟨o.kind, o.exec, o.n, o.name, o.ref, o.off, o.len⟩ : Ob) = o := rfl
theorem Cl.eta (o : Cl) : (⟨o.kind, o.bytes, o.items, o.keys, o.vals, o.max, o.at'⟩ : Cl) = o := rfl

end Go.Ab

/- Operations on lists of rows that are images of typed lists. Under: nothing. -/
namespace Go.Ab
theorem quo_at {σ : Store} {nm : Nat} {ev : RA → AV} {x y : RA} {k : IntKind} {a b : Int} (hx : ev x = .pv (.int k a)) (hy : ev y = .pv (.int k b)) (hb : b ≠ 0) : step σ nm ev (.bin .quo x y) = some { v := .pv (.int k (k.wrap (a.tdiv b))) } := by
  simp only [step, hx, hy, binop, if_true, Eff.of]
  rw [if_neg hb]
section
variable {σ : Store} {nm es bytes : Nat} {ev : RA → AV} {α : Type} {f : α → List PV} {l x' : List α} {xs : List (List PV)} {rd : List Nat}
theorem append_fM {s x : RA} (hs : ev s = .fsl es (l.map f)) (hx : prowsOf σ es (ev x) = some (xs, rd)) (hxs : xs = x'.map f) (hb : (l.length + x'.length) * bytes ≤ 2 ^ 40) :
    step σ nm ev (.append es bytes s x) = some { v := .pv (.sl es ((l ++ x').map f)), rd := rd } := by
  subst hxs
  rw [append_f hs hx (by simpa using hb), List.map_append]
theorem append_oM {s x : RA} {b c : Nat} {sl : Bool} (hs : ev s = .own b 0 c) (hf : find σ b = some (.arr es (l.map f) sl)) (hc : l.length = c) (hx : prowsOf σ es (ev x) = some (xs, rd)) (hxs : xs = x'.map f) (hb : (c + x'.length) * bytes ≤ 2 ^ 40) :
    step σ nm ev (.append es bytes s x) = some { v := .own nm 0 (c + x'.length), rd := b :: rd, up := [(b, none), (nm, some (.arr es ((l ++ x').map f) sl))] } := by
  subst hxs
  rw [append_o hs hf (by simpa using hc) hx (by simpa using hb), List.map_append, List.length_map]
theorem pure_rows : ∀ rows : List (List PV), mkObj es (rows.map (·.map .pv)) = .arr es rows false := by
  intro rows
  have row : ∀ r : List PV, pures? (r.map AV.pv) = some r := by
    intro r
    induction r with
    | nil => rfl
    | cons p r ih => simp [pures?, AV.pure?, ih]
  have all : rowsPure? (rows.map (·.map AV.pv)) = some rows := by
    induction rows with
    | nil => rfl
    | cons r rows ih => simp [rowsPure?, row r, ih]
  simp [mkObj, all]
theorem rows_prows {a : AV} {rows : List (List PV)} (h : prowsOf σ es a = some (rows, rd)) : rowsOf σ es a = some (rows.map (·.map .pv), rd) := by
  unfold prowsOf at h
  unfold rowsOf
  split at h
  · cases h; rfl
  · split at h <;> cases h; simp [*]
  · split at h <;> cases h; simp [*]
  · split at h
    · split at h <;> cases h; simp [*]
    · cases h
  · cases h
theorem append_eM {s x : RA} {e : Nat} (hs : (ev s).e = .emp e) (hx : prowsOf σ es (ev x) = some (xs, rd)) (hxs : xs = x'.map f) (hb : x'.length * bytes ≤ 2 ^ 40) :
    step σ nm ev (.append es bytes s x) = some { v := .own nm 0 x'.length, rd := rd, up := [(nm, some (.arr es (x'.map f) false))] } := by
  subst hxs
  rw [append_emp hs (rows_prows hx) (by simpa using hb), pure_rows, List.length_map]
theorem slice_mM {x m : RA} {lo hi : Option RA} {a h k : Int} (hx : ev x = .pv (.sl es (l.map f))) (hl : optIdx ev 0 lo = some a) (hh : optIdx ev ((l.map f).length : Nat) hi = some h) (hm : optIdx ev ((l.map f).length : Nat) (some m) = some k) (h1 : 0 ≤ a) (h2 : a ≤ h) (h3 : h = k) (h4 : k ≤ l.length) :
    step σ nm ev (.slice es x lo hi (some m)) = some { v := .fsl es (((l.take h.toNat).drop a.toNat).map f) } := by
  rw [slice_m hx hl hh hm h1 h2 h3 (by simpa using h4), List.map_drop, List.map_take]
theorem slice_M {x : RA} {lo hi : Option RA} {a h : Int} (hx : ev x = .pv (.sl es (l.map f))) (hl : optIdx ev 0 lo = some a) (hh : optIdx ev ((l.map f).length : Nat) hi = some h) (h1 : 0 ≤ a) (h2 : a ≤ h) (h3 : h ≤ l.length) :
    step σ nm ev (.slice es x lo hi none) = some { v := .pv (.sl es (((l.take h.toNat).drop a.toNat).map f)) } := by
  rw [slice_at hx hl hh h1 h2 (by simpa using h3), List.map_drop, List.map_take]
theorem slice_fM {x : RA} {lo hi : Option RA} {a h : Int} (hx : ev x = .fsl es (l.map f)) (hl : optIdx ev 0 lo = some a) (hh : optIdx ev ((l.map f).length : Nat) hi = some h) (h1 : 0 ≤ a) (h2 : a ≤ h) (h3 : h ≤ l.length) :
    step σ nm ev (.slice es x lo hi none) = some { v := .pv (.sl es (((l.take h.toNat).drop a.toNat).map f)) } := by
  rw [slice_f hx hl hh h1 h2 (by simpa using h3), List.map_drop, List.map_take]
end
end Go.Ab
namespace Go.Ab
end Go.Ab

/- Slices cut at the smaller of a number and their length. Under: nothing. -/
namespace Go.Ab
section
variable {σ : Store} {nm es : Nat} {ev : RA → AV} {α : Type} {f : α → List PV} {l : List α}
end
end Go.Ab
namespace Go.Ab
section
variable {σ : Store} {nm : Nat} {ev : RA → AV}
end
end Go.Ab

/- Loops of functions that run on their callers' stores, with symbols. Under: nothing. -/
namespace Go.Ab
/-- normN, forced. -/
def normNK {α : Sort _} (n0 : Nat) (live : List Nat) (st : St) (K : St → α) : α :=
  match st with
  | ⟨tm, σ, nx, nt⟩ => forceNs (lowNs n0 live ⟨tm, σ, nx, nt⟩) fun ns => normTK (fun b => idxIn ns b 0) tm (live ++ [markT]) .nil fun tm' => normSK (fun b => idxIn ns b 0) σ ns 0 fun σ' => forceN ns.length fun nx' => K ⟨tm', σ', nx', nt⟩
theorem normNK_eq {α : Sort _} (n0 : Nat) (live : List Nat) (st : St) (K : St → α) : normNK n0 live st K = K (normN n0 live st) := by
  obtain ⟨tm, σ, nx, nt⟩ := st
  simp only [normNK, forceNs_eq, normTK_eq, normSK_eq, forceN_eq]
  rfl
def SameN (n0 : Nat) (live : List Nat) (s s' : St) : Prop := normNK n0 live s' fun n' => normNK n0 live s fun n => n = n'
theorem loopN {X : St → Prop} {live : List Nat} {n0 : Nat} {F : St → Prop} (hX : ∀ s, F s → X s) (hW : ∀ s s', Wk (some (n0, live)) s s' → X s' → X s) {st : St} {α : Sort _} (sh : St → α → St) (I : α → Nat → Prop) (a : α) (m : Nat) (h : SameN n0 live st (sh st a)) (hI : I a m)
    (key : ∀ (m : Nat) (a : α), (∀ (m' : Nat) (a' : α) (s' : St), m' < m → I a' m' → SameN n0 live s' (sh st a') → X s') → I a m → normNK n0 live (sh st a) F) : X st := by
  have all : ∀ (n m : Nat), m < n → ∀ (a : α) (s : St), I a m → SameN n0 live s (sh st a) → X s := by
    intro n
    induction n with
    | zero => intro m hm; omega
    | succ n ihn =>
      intro m hm a s hI hs
      have g := key m a (fun m' a' s' hm' => ihn m' (by omega) a' s') hI
      refine hW s _ (.nrm n0 live rfl) (hX _ ?_)
      simp only [SameN, normNK_eq] at hs g ⊢
      rw [hs]; exact g
  exact all (m + 1) m (by omega) a st hI h
section
variable {σ : Store} {nm : Nat} {ev : RA → AV}
end
end Go.Ab
