/- The abstract layer, part 4: values, steps, their soundness. Under: nothing. -/
import Derived.Test.YtngmifmcohmfmaaDoorAbG3
import Derived.RangeFuncRecord
import Derived.RangeFuncIn
import Derived.Control
/- A region in the calculus, in whatever order. Under: nothing. -/
namespace Go.Ab
open Go.RowKit

def chkAll (P : Program) (ops : Array Oper) (nt : Nat) : List Oper → List RIns → Bool
  | [], [] => true
  | o :: l, r :: m => chkIns P ops nt o r && chkAll P ops nt l m
  | _, _ => false

def preOf (rs : List RIns) : List Edge → Nat
  | [] => 0
  | e :: l => match Region.binds .any e with
    | true => 2 ^ e.on ||| ((rs.getD e.on default).pre ||| preOf rs l)
    | false => preOf rs l

def chkPre (rs : List RIns) : Nat → List Oper → List RIns → Bool
  | _, [], [] => true
  | i, o :: l, r :: m => r.pre == preOf rs o.after.toList && o.after.toList.all (fun e => !Region.binds .any e || decide (e.on < i)) && chkPre rs (i + 1) l m
  | _, _, _ => false

def apartOne (r : RIns) : Nat → List RIns → Bool
  | _, [] => true
  | i, x :: l => (apartT x r || r.pre.testBit i) && apartOne r (i + 1) l

def apartAll : List RIns → List RIns → Bool
  | _, [] => true
  | done, r :: l => apartOne r 0 done && apartAll (done ++ [r]) l

/-- What only looks. -/
def ROp.quiet : ROp → Bool
  | .mv _ => true
  | .pick _ _ _ => true
  | .load _ _ _ => true
  | .bin _ _ _ => true
  | .not _ => true
  | .conv _ _ => true
  | .faddr _ _ => true
  | .field _ _ _ _ => true
  | .iaddr _ _ _ => true
  | .paddr _ _ _ _ => true
  | .isnilf _ _ => true
  | .index _ _ _ _ _ => true
  | .sindex _ _ => true
  | .extract _ _ => true
  | .slen _ => true
  | .strlen _ => true
  | _ => false

def calmPair (x r : RIns) : Bool := x.guard.isNone && r.guard.isNone && x.op.quiet && r.op.quiet

def calmOne (r : RIns) : Nat → List RIns → Bool
  | _, [] => true
  | i, x :: l => (calmPair x r || r.pre.testBit i) && calmOne r (i + 1) l

/-- Whatever two operations have no order between them only look. -/
def calmAll : List RIns → List RIns → Bool
  | _, [] => true
  | done, r :: l => calmOne r 0 done && calmAll (done ++ [r]) l

def chkReg (P : Program) (nt : Nat) (ops : Array Oper) (rs : List RIns) (draw : Bool) : Bool :=
  chkAll P ops nt ops.toList rs && (!draw || (apartAll [] rs && chkPre rs 0 ops.toList rs))

/-- A region that draws its order, and may be taken in order. -/
def chkCalm (P : Program) (nt : Nat) (ops : Array Oper) (rs : List RIns) : Bool :=
  chkReg P nt ops rs true && calmAll [] rs

theorem calmOne_spec {r : RIns} : ∀ (l : List RIns) (i : Nat), calmOne r i l = true → ∀ k x, l[k]? = some x → calmPair x r = true ∨ r.pre.testBit (i + k) = true
  | [], _, _, k, x, h => by simp at h
  | y :: l, i, h, k, x, hx => by
    simp only [calmOne, Bool.and_eq_true, Bool.or_eq_true] at h
    cases k with
    | zero => simp at hx; subst hx; exact h.1
    | succ k =>
      simp at hx
      have := calmOne_spec l (i + 1) h.2 k x hx
      have e : i + 1 + k = i + (k + 1) := by omega
      rwa [e] at this

theorem calmAll_spec : ∀ (l done : List RIns), calmAll done l = true → ∀ i j x r, i < j → done.length ≤ j → (done ++ l)[i]? = some x → (done ++ l)[j]? = some r → calmPair x r = true ∨ r.pre.testBit i = true
  | [], done, _, i, j, x, r, hij, hd, hx, hr => by
    simp at hr; have := (List.getElem?_eq_some_iff.1 hr).1; omega
  | y :: l, done, h, i, j, x, r, hij, hd, hx, hr => by
    simp only [calmAll, Bool.and_eq_true] at h
    by_cases e : j = done.length
    · subst e
      simp at hr; subst hr
      rw [List.getElem?_append_left hij] at hx
      have := calmOne_spec done 0 h.1 i x hx
      simpa using this
    · have : done ++ y :: l = (done ++ [y]) ++ l := by simp
      rw [this] at hx hr
      exact calmAll_spec l _ h.2 i j x r hij (by simp; omega) hx hr

theorem quiet_up {σ : Store} {nm : Nat} {ev : RA → AV} {op : ROp} {e : Eff} (hq : op.quiet = true) (h : step σ nm ev op = some e) : e.up = [] := by
  cases op <;> simp only [ROp.quiet, Bool.false_eq_true] at hq <;> simp only [step, step.iaddrP, Eff.of] at h <;> (repeat' split at h) <;> first | (cases h; rfl) | cases h

theorem set_comm : ∀ (d : Nat) (t : T) (n m : Nat) (u v : AV), n % 2 ^ d ≠ m % 2 ^ d → T.set d (T.set d t n u) m v = T.set d (T.set d t m v) n u
  | 0, t, n, m, u, v, h => by simp [Nat.mod_one] at h
  | d + 1, t, n, m, u, v, h => by
    have hn := Nat.mod_two_eq_zero_or_one n
    have hm := Nat.mod_two_eq_zero_or_one m
    have key : n % 2 = m % 2 → n / 2 % 2 ^ d ≠ m / 2 % 2 ^ d := by
      intro e h'
      apply h
      rw [Nat.pow_succ, Nat.mul_comm, Nat.mod_mul, Nat.mod_mul, e, h']
    rcases hn with hn | hn <;> rcases hm with hm | hm <;> simp only [T.set, hn, hm]
    · show T.node (T.set d (T.set d t.l (n / 2) u) (m / 2) v) t.r = T.node (T.set d (T.set d t.l (m / 2) v) (n / 2) u) t.r
      rw [set_comm d t.l _ _ u v (key (hn.trans hm.symm))]
    · rfl
    · rfl
    · show T.node t.l (T.set d (T.set d t.r (n / 2) u) (m / 2) v) = T.node t.l (T.set d (T.set d t.r (m / 2) v) (n / 2) u)
      rw [set_comm d t.r _ _ u v (key (hn.trans hm.symm))]

theorem putW_comm {s : St} {a b : Option Nat} {u v : AV} {σ : Store} (ha : ∀ d, a = some d → d < 1024) (hb : ∀ d, b = some d → d < 1024) (h : ∀ x y, a = some x → b = some y → x ≠ y) : putW (putW s a u σ) b v σ = putW (putW s b v σ) a u σ := by
  cases a with
  | none => cases b <;> rfl
  | some x =>
    cases b with
    | none => rfl
    | some y =>
      simp only [putW]
      have e1 : x % 2 ^ tdepth = x := Nat.mod_eq_of_lt (ha x rfl)
      have e2 : y % 2 ^ tdepth = y := Nat.mod_eq_of_lt (hb y rfl)
      rw [set_comm _ _ _ _ _ _ (by rw [e1, e2]; exact h x y rfl rfl)]

theorem chkAll_spec {P : Program} {ops : Array Oper} {nt : Nat} : ∀ {l : List Oper} {m : List RIns}, chkAll P ops nt l m = true → l.length = m.length ∧ ∀ (i : Nat) (o : Oper) (r : RIns), l[i]? = some o → m[i]? = some r → chkIns P ops nt o r = true
  | [], [], _ => ⟨rfl, fun i o r h => by simp at h⟩
  | o :: l, r :: m, h => by
    simp only [chkAll, Bool.and_eq_true] at h
    obtain ⟨e, hr⟩ := chkAll_spec h.2
    refine ⟨by simp [e], fun i o' r' ho hr' => ?_⟩
    cases i with
    | zero => simp at ho hr'; subst ho; subst hr'; exact h.1
    | succ i => simp at ho hr'; exact hr i o' r' ho hr'
  | [], _ :: _, h => by simp [chkAll] at h
  | _ :: _, [], h => by simp [chkAll] at h

theorem preOf_spec {rs : List RIns} {i : Nat} : ∀ {l : List Edge}, (preOf rs l).testBit i = true → ∃ e ∈ l, Region.binds .any e = true ∧ (e.on = i ∨ ((rs.getD e.on default).pre).testBit i = true)
  | [], h => by simp [preOf] at h
  | e :: l, h => by
    simp only [preOf] at h
    split at h
    · rename_i hb
      rw [Nat.testBit_or, Nat.testBit_or, Bool.or_eq_true, Bool.or_eq_true, Nat.testBit_two_pow, decide_eq_true_eq] at h
      rcases h with h | h | h
      · exact ⟨e, by simp, hb, .inl h⟩
      · exact ⟨e, by simp, hb, .inr h⟩
      · obtain ⟨e', he, hx⟩ := preOf_spec h; exact ⟨e', by simp [he], hx⟩
    · obtain ⟨e', he, hx⟩ := preOf_spec h; exact ⟨e', by simp [he], hx⟩

theorem chkPre_spec {rs : List RIns} : ∀ {l : List Oper} {m : List RIns} {i : Nat}, chkPre rs i l m = true → ∀ (k : Nat) (o : Oper) (r : RIns), l[k]? = some o → m[k]? = some r →
    (∀ x, r.pre.testBit x = true → ∃ e ∈ o.after.toList, Region.binds .any e = true ∧ (e.on = x ∨ ((rs.getD e.on default).pre).testBit x = true)) ∧
    ∀ e ∈ o.after.toList, Region.binds .any e = true → e.on < i + k
  | [], [], _, _, k, o, r, ho, _ => by simp at ho
  | o :: l, r :: m, i, h, k, o', r', ho, hr => by
    simp only [chkPre, Bool.and_eq_true, beq_iff_eq] at h
    obtain ⟨⟨h1, h2⟩, h3⟩ := h
    cases k with
    | zero =>
      simp at ho hr; subst ho; subst hr
      refine ⟨fun x hx => preOf_spec (h1 ▸ hx), fun e he hb => ?_⟩
      have := List.all_eq_true.1 h2 e he
      simp [hb] at this
      simpa using this
    | succ k =>
      simp at ho hr
      obtain ⟨g1, g2⟩ := chkPre_spec h3 k o' r' ho hr
      refine ⟨g1, fun e he hb => ?_⟩
      have := g2 e he hb; omega
  | [], _ :: _, _, h, _, _, _, _, _ => by simp [chkPre] at h
  | _ :: _, [], _, h, _, _, _, _, _ => by simp [chkPre] at h

theorem apartOne_spec {r : RIns} : ∀ (l : List RIns) (i : Nat), apartOne r i l = true → ∀ k x, l[k]? = some x → apartT x r = true ∨ r.pre.testBit (i + k) = true
  | [], _, _, k, x, h => by simp at h
  | y :: l, i, h, k, x, hx => by
    simp only [apartOne, Bool.and_eq_true, Bool.or_eq_true] at h
    cases k with
    | zero => simp at hx; subst hx; exact h.1
    | succ k =>
      simp at hx
      have := apartOne_spec l (i + 1) h.2 k x hx
      have e : i + 1 + k = i + (k + 1) := by omega
      rwa [e] at this

theorem apartAll_spec : ∀ (l done : List RIns), apartAll done l = true → ∀ i j x r, i < j → done.length ≤ j → (done ++ l)[i]? = some x → (done ++ l)[j]? = some r → apartT x r = true ∨ r.pre.testBit i = true
  | [], done, _, i, j, x, r, hij, hd, hx, hr => by
    simp at hr; have := (List.getElem?_eq_some_iff.1 hr).1; omega
  | y :: l, done, h, i, j, x, r, hij, hd, hx, hr => by
    simp only [apartAll, Bool.and_eq_true] at h
    by_cases e : j = done.length
    · subst e
      simp at hr; subst hr
      rw [List.getElem?_append_left hij] at hx
      have := apartOne_spec done 0 h.1 i x hx
      simpa using this
    · have : done ++ y :: l = (done ++ [y]) ++ l := by simp
      rw [this] at hx hr
      exact apartAll_spec l _ h.2 i j x r hij (by simp; omega) hx hr

theorem mem_mid {A C : List Nat} {j k : Nat} (h : k ∈ A ++ C) : k ∈ A ++ j :: C := by
  rcases List.mem_append.1 h with h | h
  · exact List.mem_append_left _ h
  · exact List.mem_append_right _ (List.mem_cons_of_mem _ h)

theorem mem_mid' {A C : List Nat} {j k : Nat} (h : k ∈ A ++ j :: C) (hne : k ≠ j) : k ∈ A ++ C := by
  rcases List.mem_append.1 h with h | h
  · exact List.mem_append_left _ h
  · rcases List.mem_cons.1 h with h | h
    · exact absurd h hne
    · exact List.mem_append_right _ h

/-- The names that may be in use when the operations of L are still to come. -/
def NL (nx0 nx1 : Nat) (L : List Nat) (b : Nat) : Prop := b < nx1 ∧ ∀ j ∈ L, ¬ Names (nx0 + stride * j) b

section
variable {P : Program} {G : Gl} {B : Nat} {w0 : World} {I0 : Imm} {gh : Gh} {s sf : St} {a : Act} {w : World}
variable {ops : Array Oper} {n : Nat} {ro : Option Nat} {Q : Exit → Act → World → Prop} {ins : Nat → RIns} {dat : Nat → Dat} {nx0 nt : Nat}

theorem NL.next {A C : List Nat} {j m : Nat} (hj : j < m) (hA : ∀ k ∈ A ++ C, k ≠ j) {b : Nat} (h : NL nx0 (nx0 + stride * m) (A ++ j :: C) b ∨ Names (nx0 + stride * j) b) :
    NL nx0 (nx0 + stride * m) (A ++ C) b := by
  rcases h with ⟨h1, h2⟩ | h
  · exact ⟨h1, fun k hk => h2 k (mem_mid hk)⟩
  · refine ⟨?_, fun k hk hn => hA k hk ?_⟩
    · have : b < nx0 + stride * j + stride := h.2
      have e : stride * (j + 1) ≤ stride * m := Nat.mul_le_mul_left _ hj
      rw [Nat.mul_succ] at e; omega
    · obtain ⟨a1, a2⟩ := h
      obtain ⟨b1, b2⟩ := hn
      simp only [stride] at a1 a2 b1 b2
      omega

/-- What an inlined call comes to. -/
def InlPost (P : Program) (G : Gl) (B : Nat) (w0 : World) (I0 : Imm) (gs : Value → AV → Prop) (D : Nat → Prop) (w : World) (nx : Nat) (K : AV → Store → Nat → Prop) : Ending → World → Prop
  | .returned v, w' => ∃ av σ' nx' I' ι' D', K av σ' nx' ∧ Core B w0 I0 w' I' ι' σ' D' ∧ nx ≤ nx' ∧ (∀ b, D' b → D b ∨ (nx ≤ b ∧ b < nx')) ∧ RepA w' I' ι' σ' D' v av ∧ GlobOk P G w' I' ∧ (∀ x a, gs x a → RepA w' I' ι' σ' D' x a) ∧ ∀ (r : Nat) (o : Obj), still o = true → w.heap[r]? = some o → w'.heap[r]? = some o
  | _, _ => False

/-- The inlined functions are the model's. -/
def InlOk (P : Program) (G : Gl) (Inl : InlF) : Prop :=
  ∀ g h, Inl g = some h → ∀ (args : List AV) (σ : Store) (nx : Nat) (K : AV → Store → Nat → Prop), h args σ nx K →
    ∀ (B : Nat) (w0 : World) (I0 : Imm) (gs : Value → AV → Prop) (w : World) (I : Imm) (ι : Nat → Option Nat) (D : Nat → Prop) (vs : Array Value), Core B w0 I0 w I ι σ D → (∀ b, D b → b < nx) → GlobOk P G w I →
      vs.size = args.length → (∀ (j : Nat) (x : Value) (q : AV), vs[j]? = some x → args[j]? = some q → RepA w I ι σ D x q) → (∀ x a, gs x a → RepA w I ι σ D x a) →
      (∀ w₁, (callFunc g vs).run P w₁ = .ok (.enter g vs) w₁) ∧ CallsIn Fence.wide 0 P g vs w (InlPost P G B w0 I0 gs D w nx K)

/-- What a round comes to. -/
def YldPost (P : Program) (G : Gl) (B : Nat) (w0 : World) (I0 : Imm) (p : LoopAt) (gs : Value → AV → Prop) (D : Nat → Prop) (w : World) (nx : Nat) (K : AV → Store → Nat → Nat → Prop) : Ending → World → Prop
  | .returned v, w' => ∃ av σ' nx' pd I' ι' D', K av σ' nx' pd ∧ Core B w0 I0 w' I' ι' σ' D' ∧ nx ≤ nx' ∧ (∀ b, D' b → D b ∨ (nx ≤ b ∧ b < nx')) ∧ RepA w' I' ι' σ' D' v av ∧ GlobOk P G w' I' ∧ (∀ x a, gs x a → RepA w' I' ι' σ' D' x a) ∧
      (∀ (r : Nat) (o : Obj), r ≠ p.l → still o = true → w.heap[r]? = some o → w'.heap[r]? = some o) ∧ w'.heap[p.l]? = some (.loop (p.at pd))
  | _, _ => False

/-- The handler is what a round of this loop does. -/
def YldOk (P : Program) (G : Gl) (p : LoopAt) (h : YldF) (B : Nat) (w0 : World) (I0 : Imm) (gs : Value → AV → Prop) : Prop :=
  ∀ (args : List AV) (σ : Store) (nx : Nat) (K : AV → Store → Nat → Nat → Prop), h args σ nx K →
    ∀ (gs' : Value → AV → Prop) (w : World) (I : Imm) (ι : Nat → Option Nat) (D : Nat → Prop) (vs : Array Value), (∀ x a, gs x a → gs' x a) → Core B w0 I0 w I ι σ D → (∀ b, D b → b < nx) → GlobOk P G w I →
      vs.size = args.length → (∀ (j : Nat) (x : Value) (q : AV), vs[j]? = some x → args[j]? = some q → RepA w I ι σ D x q) → (∀ x a, gs' x a → RepA w I ι σ D x a) → w.heap[p.l]? = some (.loop (p.at 0)) →
      vs.size = p.data.params.size ∧ RoundIn Fence.wide 0 P p.l p.data.fn ((p.data.params.zip vs).foldl (fun tmps (t, a) => tmps.setIfInBounds t a) p.data.tmps) p.data.assign p.data.body w (YldPost P G B w0 I0 p gs' D w nx K)

/-- What an iterator's call comes to. -/
def ItrPost (P : Program) (G : Gl) (B : Nat) (w0 : World) (I0 : Imm) (p : LoopAt) (gs : Value → AV → Prop) (D : Nat → Prop) (w : World) (nx : Nat) (K : AV → Store → Nat → Prop) : Ending → World → Prop
  | .returned _, w' => ∃ k σ' nx' I' ι' D', K (.mark k) σ' nx' ∧ Core B w0 I0 w' I' ι' σ' D' ∧ nx ≤ nx' ∧ (∀ b, D' b → D b ∨ (nx ≤ b ∧ b < nx')) ∧ GlobOk P G w' I' ∧ (∀ x a, gs x a → RepA w' I' ι' σ' D' x a) ∧
      (∀ (r : Nat) (o : Obj), r ≠ p.l → still o = true → w.heap[r]? = some o → w'.heap[r]? = some o) ∧ w'.heap[p.l]? = some (.loop (p.at k))
  | _, _ => False

/-- The iterators are the model's. -/
def ItrOk (P : Program) (G : Gl) (itr : ItrF) : Prop :=
  ∀ g it, itr g = some it → ∀ (b : Nat) (h : YldF) (args : List AV) (σ : Store) (nx : Nat) (K : AV → Store → Nat → Prop), it b h args σ nx K →
    ∀ (B : Nat) (w0 : World) (I0 : Imm) (gs : Value → AV → Prop) (p : LoopAt) (w : World) (I : Imm) (ι : Nat → Option Nat) (D : Nat → Prop) (vs : Array Value), Core B w0 I0 w I ι σ D → (∀ b, D b → b < nx) → GlobOk P G w I →
      vs.size = args.length → (∀ (j : Nat) (x : Value) (q : AV), vs[j]? = some x → args[j]? = some q → RepA w I ι σ D x q) → (∀ x a, gs x a → RepA w I ι σ D x a) →
      p.b = b → gs (.func (.yield p.l) #[] #[]) (.yld p.b) → B ≤ p.l → w.heap[p.l]? = some (.loop (p.at 0)) → YldOk P G p h B w0 I0 gs →
      (∀ w₁, (callFunc g vs).run P w₁ = .ok (.enter g vs) w₁) ∧ CallsIn Fence.wide 0 P g vs w (ItrPost P G B w0 I0 p gs D w nx K)

/-- All that a frame may call on its own store is the model's. -/
structure EnvOk (P : Program) (G : Gl) (E : Env) (ro : Option Nat) (B : Nat) (w0 : World) (I0 : Imm) (gh : Gh) : Prop where
  inl : InlOk P G E.inl
  itr : ItrOk P G E.itr
  none : ∀ l, ro = some l → ∀ g, E.itr g = none
  yld : ∀ b h, E.yld = some (b, h) → ∃ p, gh.lp = some p ∧ p.b = b ∧ (∀ o, ¬ gh.keep p.l o) ∧ gh.gs (.func (.yield p.l) #[] #[]) (.yld p.b) ∧ YldOk P G p h B w0 I0 gh.gs
  low : ∀ n, E.n0 = some n → n = gh.n0 ∧ ∀ v av, gh.gs v av → lowA n av

/-- The names in use while the operations of L are to come, where the count goes up on the way. -/
def NS (nx0 : Nat) (L : List Nat) (s : St) (b : Nat) : Prop := b < s.nx ∧ ∀ j ∈ L, ¬ Names (nx0 + stride * j) b

theorem insS_wp {E : Env} (hE : EnvOk P G E ro B w0 I0 gh) {i : Nat} {o : Oper} {r : RIns} {L : List Nat} {K : St → Prop} {KR : Act → World → Prop} (ho : ops[i]? = some o) (hk : chkIns P ops s.nt o r = true) (hn0 : gh.n0 ≤ nx0)
    (hnx : nx0 + stride * i + stride ≤ s.nx) (hL : ∀ j ∈ L, i ≠ j ∧ nx0 + stride * j + stride ≤ s.nx) (h : insS G (OkC P G) E r (nx0 + stride * i) s K) (hsim : Sim P G B w0 I0 gh (NS nx0 (i :: L) s) s a w)
    (hK : ∀ s' a' w', K s' → s'.nt = s.nt → s.nx ≤ s'.nx → Sim P G B w0 I0 gh (NS nx0 L s') s' a' w' → KR a' w') : wpOpIn (Fw ro) n P ops Q i KR a w := by
  have plain : insW G (OkC P G) r (nx0 + stride * i) s (fun st' _ => K st') → wpOpIn (Fw ro) n P ops Q i KR a w := by
    intro h
    obtain ⟨d, hd, hKs⟩ := insW_what h
    refine what_wp ho hk hd hsim (fun b hb => hb.2 i (by simp)) ⟨_, fun b hb => hb.1⟩ (by omega) fun a' w' hs => ?_
    have e1 : (afterD s r d).nx = s.nx := by rw [afterD, after, putW_nx]
    refine hK _ a' w' hKs (by rw [afterD, after, putW_nt]) (by rw [e1]; exact Nat.le_refl _) (hs.weaken fun b hb => ⟨?_, fun j hj hn => ?_⟩)
    · rw [e1]
      rcases hb with hb | hb
      · exact hb.1
      · have := hb.2; omega
    · rcases hb with hb | hb
      · exact hb.2 j (by simp [hj]) hn
      · obtain ⟨a1, a2⟩ := hb
        obtain ⟨b1, b2⟩ := hn
        have := (hL j hj).1
        simp only [stride] at a1 a2 b1 b2
        omega
  unfold insS at h
  split at h
  · rename_i f args hro
    split at h
    · rename_i b hfv
      split at h
      · rename_i b' hh hEy hgd
        split at h
        · rename_i hbb
          rw [beq_iff_eq] at hbb
          subst hbb
          obtain ⟨hdst, hdlt, hsm, hg, hop⟩ := chkIns_spec hk
          obtain ⟨I, ι, D, hx⟩ := hsim
          obtain ⟨tm, σ, nx, nt'⟩ := s
          simp only [callY] at h
          split at h
          · rename_i hmk
            have hcall : chkCall o.op r.op = true := hop.resolve_left fun h => by rw [hro, chkOp_noCall] at h; cases h
            rw [hro] at hcall
            unfold chkCall at hcall
            split at hcall
            · rename_i c f' args' hoc heq
              cases heq
              split at hcall
              · rename_i x hcv
                simp only [Bool.and_eq_true] at hcall
                obtain ⟨hcf, hcas⟩ := hcall
                obtain ⟨hal, har⟩ := chkAs_rep (ρ := a.eval) (fun o r h => hx.eval h) hcas
                have hcs : c.args.size = args.length := by simpa using hal
                obtain ⟨p, hp, hpb, hkp, hgy, hY⟩ := hE.yld _ _ hEy
                have hfr := hx.eval hcf
                rw [hfv] at hfr
                have hxf : a.eval x = .func (.yield p.l) #[] #[] := by
                  have hgr := hx.ghost _ _ hgy
                  rw [hpb] at hgr
                  generalize a.eval x = xv at hfr
                  generalize hyv : Value.func (.yield p.l) #[] #[] = yv at hgr
                  cases hfr with
                  | yld _ h1 =>
                    cases hgr with
                    | yld _ h2 =>
                      obtain ⟨l₁, i1, e1⟩ := h1
                      obtain ⟨l₂, i2, e2⟩ := h2
                      rw [i1] at i2
                      cases i2
                      rw [e1, e2]
                obtain ⟨hnt, hBl, k, hk1, hk2⟩ := hx.loop p hp
                simp only at hk1
                rw [hmk] at hk1
                cases hk1
                let gs : Value → AV → Prop := fun v av => gh.gs v av ∨ ∃ t, t < 1024 ∧ v = a.tmps.getD t undef ∧ av = tm.get tdepth t
                obtain ⟨hsz, hround⟩ := hY _ _ _ _ h gs w I ι D (c.args.map a.eval) (fun _ _ h => .inl h) hx.core (fun b hb => (hx.names b hb).1) hx.glob (by simp only [Array.size_map, List.length_map]; exact hcs)
                  (fun j z q hz hq => by
                    rw [List.getElem?_map, Option.map_eq_some_iff] at hq
                    obtain ⟨q', hq', rfl⟩ := hq
                    rw [Array.getElem?_map, Option.map_eq_some_iff] at hz
                    obtain ⟨z', hz', rfl⟩ := hz
                    exact har j z' q' (by simpa using hz') hq')
                  (fun v av hv => by
                    rcases hv with hv | ⟨t, ht, rfl, rfl⟩
                    · exact hx.ghost v av hv
                    · exact hx.tm t ht) hk2
                unfold wpOpIn
                simp only [ho]
                rw [wanted_of (b := true) (s := ⟨tm, σ, nx, nt'⟩) ⟨I, ι, D, hx⟩ hg hsm (fun t want e => by rw [hgd] at e; cases e) (fun e => by cases e), if_pos rfl]
                refine ⟨fun _ _ => trivial, ?_⟩
                have hnd : ∀ c', o.op ≠ .defer c' := by intro c' e; rw [e] at hoc; cases hoc
                rw [Oper.semAt_eq _ _ _ hnd]
                have hexec : (execOp a.eval o).run P w = .ok (.round p.l p.data.fn ((p.data.params.zip (c.args.map a.eval)).foldl (fun tmps (t, a) => tmps.setIfInBounds t a) p.data.tmps) p.data.assign p.data.body) w := by
                  obtain ⟨dst, op, type, pos, aft, guard⟩ := o
                  simp only at hoc
                  subst hoc
                  simp only [execOp, resolve, hcv, hxf, Deferred.ofValue, Sem.run_bind, Sem.run_pure, Result.andThen_ok, invoke, Array.empty_append]
                  have hy := run_yield (P := P) (args := c.args.map a.eval) hk2 hsz
                  exact hy
                rw [hexec]
                refine ⟨fun h => by simp [Fence.wide] at h, ?_⟩
                refine RoundIn.mono (R := YldPost P G B w0 I0 p gs D w nx _) ⟨hround.1, fun c cs _ => hround.2 c cs (room_wide _)⟩ fun e w₁ he => ?_
                cases e with
                | returned v =>
                  obtain ⟨av, σ', nx', pd, I', ι', D', hKa, hc₁, hle, hD, hrep, hglob, hgh, hstill, hrec⟩ := he
                  rw [forceN_eq, setK_eq, putK_eq] at hKa
                  have hnext : KR (a.put o.dst v) w₁ := by
                    rw [hdst]
                    have hsz : (putW (⟨tm.set tdepth markT (.mark pd), σ', nx', nt'⟩ : St) r.dst av σ').nx = nx' := putW_nx
                    refine hK _ _ _ hKa (by rw [putW_nt]) (by rw [hsz]; exact hle) ⟨I', ι', D', ?_⟩
                    have hσ : (putW (⟨tm.set tdepth markT (.mark pd), σ', nx', nt'⟩ : St) r.dst av σ').σ = σ' := putW_σ
                    have hne : ∀ (r : Nat) (o : Obj), gh.keep r o → r ≠ p.l := fun r o hk e => hkp o (e ▸ hk)
                    refine ⟨by rw [hσ]; exact hc₁, fun b hb => ?_, ?_, ?_, hglob, fun t ht => ?_, fun x y hg => by rw [hσ]; exact hgh x y (.inl hg), fun b hb => ?_,
                      fun r o hk => ⟨(hx.kept r o hk).1, hstill r o (hne r o hk) (hx.kept r o hk).1 (hx.kept r o hk).2⟩, fun p' hp' => ?_⟩
                    · refine ⟨?_, fun j hj hn => ?_⟩
                      · rw [hsz]
                        rcases hD b hb with h | h
                        · have := (hx.names b h).1; simp only at this hle; omega
                        · exact h.2
                      · rcases hD b hb with h | h
                        · exact (hx.names b h).2 j (by simp [hj]) hn
                        · have h1 := (hL j hj).2
                          have h2 := hn.2
                          simp only at h1
                          omega
                    · obtain ⟨rs, h1, h2, h3⟩ := hx.dfs
                      have : Marks B gh.keep w₁ a.defers := ⟨rs, h1, h2, fun r hr => ⟨(h3 r hr).1, (h3 r hr).2.1, hstill r _ (fun e => by subst e; rw [(h3 _ hr).2.2] at hk2; cases hk2) rfl (h3 r hr).2.2⟩⟩
                      cases r.dst <;> exact this
                    · have := hx.size
                      cases r.dst with
                      | none => exact this
                      | some d => simpa [Act.put, putW] using this
                    · rw [hσ, get_put ht fun d e => (hdlt d e).2]
                      have hold : ∀ t, t < 1024 → RepA w₁ I' ι' σ' D' (a.tmps.getD t undef) ((tm.set tdepth markT (.mark pd)).get tdepth t) := fun t ht => by
                        rw [get_set]
                        split
                        · exact .mark _ _
                        · exact hgh _ _ (.inr ⟨t, ht, rfl, rfl⟩)
                      cases hrd : r.dst with
                      | none => simp only [Act.put, reduceCtorEq, if_false]; exact hold t ht
                      | some d =>
                        have hds : d < a.tmps.size := by rw [hx.size]; exact (hdlt d hrd).1
                        simp only [Act.put, Option.some.injEq]
                        by_cases e : d = t
                        · subst e; rw [if_pos rfl]
                          have : (a.tmps.setIfInBounds d v).getD d undef = v := by simp [Array.getD, hds]
                          rw [this]; exact hrep
                        · rw [if_neg e]
                          have : (a.tmps.setIfInBounds d v).getD t undef = a.tmps.getD t undef := by
                            simp only [Array.getD_eq_getD_getElem?]
                            rw [Array.getElem?_setIfInBounds_ne e]
                          rw [this]; exact hold t ht
                    · rcases hD b hb with h | h
                      · exact hx.base b h
                      · simp only at hnx; exact .inr (by omega)
                    · rw [hp] at hp'
                      cases hp'
                      refine ⟨by rw [putW_nt]; exact hnt, hBl, pd, ?_, hrec⟩
                      rw [get_put (by decide) fun d e => (hdlt d e).2, if_neg (fun e => by have := (hdlt _ e).1; simp only [markT] at this hnt; omega), get_set, if_pos rfl]
                  exact hnext
                | panicked ch => exact he.elim
                | outgrown => exact he.elim
              · cases hcall
            · cases hcall
          · exact h.elim
        · exact h.elim
      · exact h.elim
    · rename_i fv hne
      split at h
      · rename_i g fa fb hca
        split at h
        · rename_i hf hinlg
          have inlined : callS hf (fa ++ args.map (s.ev G) ++ fb) r.dst s K → (∀ t want, r.guard = some (t, want) → s.ev G (.t t) = .pv (.bool want)) → wpOpIn (Fw ro) n P ops Q i KR a w := by
            intro h hgon
            obtain ⟨hdst, hdlt, hsm, hg, hop⟩ := chkIns_spec hk
            obtain ⟨I, ι, D, hx⟩ := hsim
            obtain ⟨tm, σ, nx, nt'⟩ := s
            simp only [callS] at h
            have hcall : chkCall o.op r.op = true := hop.resolve_left fun h => by rw [hro, chkOp_noCall] at h; cases h
            rw [hro] at hcall
            unfold chkCall at hcall
            split at hcall
            · rename_i c f' args' hoc heq
              cases heq
              split at hcall
              · rename_i x hcv
                simp only [Bool.and_eq_true] at hcall
                obtain ⟨hcf, hcas⟩ := hcall
                obtain ⟨hal, har⟩ := chkAs_rep (ρ := a.eval) (fun o r h => hx.eval h) hcas
                obtain ⟨xs, ys, hxf, hxl, hyl, hxr, hyr⟩ := callee_rep hca (hx.eval hcf)
                have hcs : c.args.size = args.length := by simpa using hal
                let gs : Value → AV → Prop := fun v av => gh.gs v av ∨ ∃ t, t < 1024 ∧ v = a.tmps.getD t undef ∧ av = tm.get tdepth t
                obtain ⟨henter, hcalls⟩ := hE.inl g hf hinlg _ _ _ _ h B w0 I0 gs w I ι D ((xs ++ c.args.map a.eval) ++ ys) hx.core (fun b hb => (hx.names b hb).1) hx.glob
                  (by simp only [Array.size_append, Array.size_map, List.length_append, List.length_map]; omega)
                  (fun j z q hz hq => by
                    by_cases h1 : j < fa.length
                    · rw [List.getElem?_append_left (by simp; omega), List.getElem?_append_left h1] at hq
                      rw [Array.getElem?_append_left (by simp; omega), Array.getElem?_append_left (by omega)] at hz
                      exact hxr j z q hz hq
                    · by_cases h2 : j < fa.length + args.length
                      · rw [List.getElem?_append_left (by simp; omega), List.getElem?_append_right (by omega), List.getElem?_map, Option.map_eq_some_iff] at hq
                        obtain ⟨q', hq', rfl⟩ := hq
                        rw [Array.getElem?_append_left (by simp; omega), Array.getElem?_append_right (by omega), Array.getElem?_map, Option.map_eq_some_iff] at hz
                        obtain ⟨z', hz', rfl⟩ := hz
                        rw [hxl] at hz'
                        exact har (j - fa.length) z' q' (by simpa using hz') hq'
                      · rw [List.getElem?_append_right (by simp; omega)] at hq
                        rw [Array.getElem?_append_right (by simp; omega)] at hz
                        simp only [List.length_append, List.length_map, Array.size_append, Array.size_map] at hq hz
                        rw [hxl, hcs] at hz
                        exact hyr _ z q hz hq)
                  (fun v av hv => by
                    rcases hv with hv | ⟨t, ht, rfl, rfl⟩
                    · exact hx.ghost v av hv
                    · exact hx.tm t ht)
                unfold wpOpIn
                simp only [ho]
                rw [wanted_of (b := true) (s := ⟨tm, σ, nx, nt'⟩) ⟨I, ι, D, hx⟩ hg hsm (fun t want e => by simpa using hgon t want e) (fun e => by cases e), if_pos rfl]
                refine ⟨fun _ _ => trivial, ?_⟩
                have hnd : ∀ c', o.op ≠ .defer c' := by intro c' e; rw [e] at hoc; cases hoc
                rw [Oper.semAt_eq _ _ _ hnd]
                have hexec : (execOp a.eval o).run P w = .ok (.enter g ((xs ++ c.args.map a.eval) ++ ys)) w := by
                  obtain ⟨dst, op, type, pos, aft, guard⟩ := o
                  simp only at hoc
                  subst hoc
                  simp only [execOp, resolve, hcv, hxf, Deferred.ofValue, Sem.run_bind, Sem.run_pure, Result.andThen_ok, invoke]
                  exact henter w
                rw [hexec]
                refine ⟨fun h => by simp [Fence.wide] at h, ?_⟩
                have hc' : CallsIn (Fw ro) 0 P g ((xs ++ c.args.map a.eval) ++ ys) w _ := hcalls
                refine CallsIn.mono (CallsIn.more hc' (Nat.zero_le _)) fun e w₁ he => ?_
                cases e with
                | returned v =>
                  obtain ⟨av, σ', nx', I', ι', D', hKa, hc₁, hle, hD, hrep, hglob, hgh, hstill⟩ := he
                  rw [putK_eq] at hKa
                  have hnext : KR (a.put o.dst v) w₁ := by
                    rw [hdst]
                    have hsz : (putW (⟨tm, σ', nx', nt'⟩ : St) r.dst av σ').nx = nx' := putW_nx
                    refine hK _ _ _ hKa (by rw [putW_nt]) (by rw [hsz]; exact hle) ⟨I', ι', D', ?_⟩
                    have hσ : (putW (⟨tm, σ', nx', nt'⟩ : St) r.dst av σ').σ = σ' := putW_σ
                    refine ⟨by rw [hσ]; exact hc₁, fun b hb => ?_, ?_, ?_, hglob, fun t ht => ?_, fun x y hg => by rw [hσ]; exact hgh x y (.inl hg), fun b hb => ?_, fun r o hk => ⟨(hx.kept r o hk).1, hstill r o (hx.kept r o hk).1 (hx.kept r o hk).2⟩, fun p hp => ?_⟩
                    · refine ⟨?_, fun j hj hn => ?_⟩
                      · rw [hsz]
                        rcases hD b hb with h | h
                        · have := (hx.names b h).1; simp only at this hle; omega
                        · exact h.2
                      · rcases hD b hb with h | h
                        · exact (hx.names b h).2 j (by simp [hj]) hn
                        · have h1 := (hL j hj).2
                          have h2 := hn.2
                          simp only at h1
                          omega
                    · obtain ⟨rs, h1, h2, h3⟩ := hx.dfs
                      have : Marks B gh.keep w₁ a.defers := ⟨rs, h1, h2, fun r hr => ⟨(h3 r hr).1, (h3 r hr).2.1, hstill r _ rfl (h3 r hr).2.2⟩⟩
                      cases r.dst <;> exact this
                    · have := hx.size
                      cases r.dst with
                      | none => exact this
                      | some d => simpa [Act.put, putW] using this
                    · rw [hσ, get_put ht fun d e => (hdlt d e).2]
                      cases hrd : r.dst with
                      | none => simp only [Act.put, reduceCtorEq, if_false]; exact hgh _ _ (.inr ⟨t, ht, rfl, rfl⟩)
                      | some d =>
                        have hds : d < a.tmps.size := by rw [hx.size]; exact (hdlt d hrd).1
                        simp only [Act.put, Option.some.injEq]
                        by_cases e : d = t
                        · subst e; rw [if_pos rfl]
                          have : (a.tmps.setIfInBounds d v).getD d undef = v := by simp [Array.getD, hds]
                          rw [this]; exact hrep
                        · rw [if_neg e]
                          have : (a.tmps.setIfInBounds d v).getD t undef = a.tmps.getD t undef := by
                            simp only [Array.getD_eq_getD_getElem?]
                            rw [Array.getElem?_setIfInBounds_ne e]
                          rw [this]; exact hgh _ _ (.inr ⟨t, ht, rfl, rfl⟩)
                    · rcases hD b hb with h | h
                      · exact hx.base b h
                      · simp only at hnx; exact .inr (by omega)
                    · obtain ⟨h1, h2, k, h3, h4⟩ := hx.loop p hp
                      refine ⟨by rw [putW_nt]; exact h1, h2, k, ?_, hstill _ _ rfl h4⟩
                      rw [get_put (by decide) fun d e => (hdlt d e).2, if_neg (fun e => by have := (hdlt _ e).1; simp only [markT] at this h1; omega)]
                      exact h3
                  exact hnext
                | panicked ch => exact he.elim
                | outgrown => exact he.elim
              · cases hcall
            · cases hcall
          split at h
          · rename_i hgd
            exact inlined h fun t want e => by rw [hgd] at e; cases e
          · rename_i t want hgd
            split at h
            · rename_i hon
              refine inlined h fun t' want' e => ?_
              rw [hgd] at e
              cases e
              unfold guardOn at hon
              split at hon
              · rename_i x hx
                rw [hx]
                cases x <;> cases want <;> simp_all
              · cases hon
            · exact plain h
        · exact plain h
      · exact plain h
  · exact plain h

theorem region_seq {E : Env} (hE : EnvOk P G E ro B w0 I0 gh) (full : List RIns) (hfull : full.length = ops.size) (hins : ∀ i o, ops[i]? = some o → chkIns P ops nt o (full.getD i default) = true) (hn0 : gh.n0 ≤ nx0) {KK : St → Prop}
    (hQ : ∀ s' a' w', KK s' → s'.nt = nt → nx0 + stride * ops.size ≤ s'.nx → Sim P G B w0 I0 gh (fun b => b < s'.nx) s' a' w' → Q .normal a' w') :
    ∀ (l : List RIns) (k : Nat) (s : St) (a : Act) (w : World), full.drop k = l → k + l.length = ops.size → s.nt = nt → nx0 + stride * ops.size ≤ s.nx → opsS G (OkC P G) E l (nx0 + stride * k) s KK →
      Sim P G B w0 I0 gh (NS nx0 (List.range' k l.length) s) s a w → wpOpsIn (Fw ro) n P ops Q (List.range' k l.length) a w
  | [], k, s, a, w, _, hk, hnt, hnx, hr, hsim => hQ s a w hr hnt hnx (hsim.weaken fun b h => h.1)
  | r :: l, k, s, a, w, hd, hk, hnt, hnx, hr, hsim => by
    simp only [List.length_cons] at hk
    have hlt : k < ops.size := by omega
    have ho : ops[k]? = some ops[k] := Array.getElem?_eq_getElem hlt
    have hrk : full.getD k default = r := by
      have : (full.drop k)[0]? = some r := by rw [hd]; rfl
      rw [List.getElem?_drop] at this
      simp only [Nat.add_zero] at this
      simp [List.getD, this]
    have hdrop : full.drop (k + 1) = l := by
      have := congrArg (List.drop 1) hd
      rw [List.drop_drop] at this
      simpa using this
    have hb : ∀ j, j < ops.size → nx0 + stride * j + stride ≤ s.nx := by
      intro j hj
      have e : stride * (j + 1) ≤ stride * ops.size := Nat.mul_le_mul_left _ hj
      rw [Nat.mul_succ] at e; omega
    show wpOpsIn (Fw ro) n P ops Q (k :: List.range' (k + 1) l.length) a w
    rw [wpOpsIn_cons]
    simp only [opsS, forceN_eq] at hr
    refine insS_wp (s := s) (L := List.range' (k + 1) l.length) hE ho (by rw [hnt, ← hrk]; exact hins k _ ho) hn0 (hb k hlt) (fun j hj => ?_) hr hsim fun s' a' w' hK hnt' hnx' hs => ?_
    · have := List.mem_range'_1.1 hj
      exact ⟨by omega, hb j (by omega)⟩
    · have e : nx0 + stride * k + stride = nx0 + stride * (k + 1) := by rw [Nat.mul_succ]; omega
      rw [e] at hK
      exact region_seq hE full hfull hins hn0 hQ l (k + 1) s' a' w' hdrop (by omega) (by rw [hnt', hnt]) (by omega) hK hs

theorem getD_false {l : Array Bool} {i : Nat} (hi : i < l.size) : l.getD i false = l.getD i true := by simp [Array.getD, hi]

theorem region_any (hins : ∀ i o, ops[i]? = some o → chkIns P ops nt o (ins i) = true)
    (hpre : ∀ i o, ops[i]? = some o → (∀ x, (ins i).pre.testBit x = true → ∃ e ∈ o.after.toList, Region.binds .any e = true ∧ (e.on = x ∨ (ins e.on).pre.testBit x = true)) ∧ ∀ e ∈ o.after.toList, Region.binds .any e = true → e.on < i)
    (hap : ∀ i j, i < j → j < ops.size → apartT (ins i) (ins j) = true ∨ (ins j).pre.testBit i = true)
    (hcl : ∀ i j, i < j → j < ops.size → ((dat i).toRec (ins i)).clash ((dat j).toRec (ins j)) = true → (ins j).pre.testBit i = true)
    (hn0 : gh.n0 ≤ nx0) (hQ : ∀ a' w', Sim P G B w0 I0 gh (fun b => b < nx0 + stride * ops.size) sf a' w' → Q .normal a' w') :
    ∀ (fuel : Nat) (listed : Array Bool) (L : List Nat) (s : St) (a : Act) (w : World), L.length ≤ fuel → listed.size = ops.size → L.Pairwise (· < ·) → (∀ i, i ∈ L ↔ i < ops.size ∧ listed.getD i true = false) →
      (∀ j, j < ops.size → listed.getD j true = true → ∀ i, (ins j).pre.testBit i = true → i < ops.size → listed.getD i true = true) → s.nt = nt →
      RunR G (OkC P G) ins (fun i => nx0 + stride * i) dat L s sf → Sim P G B w0 I0 gh (NL nx0 (nx0 + stride * ops.size) L) s a w → wpAnyIn (Fw ro) n P .any ops Q fuel listed a w := by
  intro fuel
  have done : ∀ (s : St) (a : Act) (w : World), RunR G (OkC P G) ins (fun i => nx0 + stride * i) dat [] s sf → Sim P G B w0 I0 gh (NL nx0 (nx0 + stride * ops.size) []) s a w → Q .normal a w :=
    fun s a w hr hsim => hQ a w ((Sim.eqv hsim hr).weaken fun b h => h.1)
  have noReady : ∀ (listed : Array Bool) (L : List Nat), listed.size = ops.size → L.Pairwise (· < ·) → (∀ i, i ∈ L ↔ i < ops.size ∧ listed.getD i true = false) → Region.ready .any ops listed = [] → L = [] := by
    intro listed L hsz hpw hmem hr
    cases L with
    | nil => rfl
    | cons j C =>
      exfalso
      obtain ⟨hj1, hj2⟩ := (hmem j).1 (by simp)
      have hoj : ops[j]? = some ops[j] := Array.getElem?_eq_getElem hj1
      have : j ∈ Region.ready .any ops listed := mem_ready.2 ⟨hj2, ops[j], hoj, fun e he hb => by
        have hlt := (hpre j _ hoj).2 e (by simpa using he) hb
        rw [getD_false (by omega)]
        cases hl : listed.getD e.on true with
        | true => rfl
        | false =>
          have hin := (hmem e.on).2 ⟨by omega, hl⟩
          simp only [List.pairwise_cons] at hpw
          rcases List.mem_cons.1 hin with h | h
          · omega
          · have := hpw.1 _ h; omega⟩
      rw [hr] at this; cases this
  induction fuel with
  | zero =>
    intro listed L s a w hlen hsz hpw hmem hclo hnt hr hsim
    have hL : L = [] := List.eq_nil_of_length_eq_zero (by omega)
    subst hL
    refine ⟨?_, done s a w hr hsim⟩
    cases hrd : Region.ready .any ops listed with
    | nil => rfl
    | cons j l =>
      exfalso
      have : j ∈ Region.ready .any ops listed := by rw [hrd]; simp
      obtain ⟨h1, oj, h2, _⟩ := mem_ready.1 this
      have := (hmem j).2 ⟨(Array.getElem?_eq_some_iff.1 h2).1, h1⟩
      cases this
  | succ fuel ih =>
    intro listed L s a w hlen hsz hpw hmem hclo hnt hr hsim
    refine ⟨fun h0 => ?_, fun j hj => ?_⟩
    · have := noReady listed L hsz hpw hmem h0
      subst this
      exact done s a w hr hsim
    · obtain ⟨hj1, oj, hoj, hall⟩ := mem_ready.1 hj
      have hjlt : j < ops.size := (Array.getElem?_eq_some_iff.1 hoj).1
      have hjL : j ∈ L := (hmem j).2 ⟨hjlt, hj1⟩
      obtain ⟨A, C, rfl⟩ := List.append_of_mem hjL
      have hpre' : ∀ i, (ins j).pre.testBit i = true → i < ops.size → listed.getD i true = true := by
        intro i hi hilt
        obtain ⟨e, he, hb, hx⟩ := (hpre j oj hoj).1 i hi
        have hl := hall e (by simpa using he) hb
        have helt := (hpre j oj hoj).2 e he hb
        rw [getD_false (by omega)] at hl
        rcases hx with rfl | hx
        · exact hl
        · exact hclo e.on (by omega) hl i hx hilt
      have hA : ∀ i ∈ A, i < j ∧ i < ops.size ∧ (ins j).pre.testBit i = false := by
        intro i hi
        have hij : i < j := (List.pairwise_append.1 hpw).2.2 i hi j (by simp)
        refine ⟨hij, by omega, ?_⟩
        cases hb : (ins j).pre.testBit i with
        | false => rfl
        | true =>
          have h1 := hpre' i hb (by omega)
          have h2 := ((hmem i).1 (by simp [hi])).2
          rw [h1] at h2; cases h2
      have hsm : ∀ i, i < ops.size → smallT (ins i) = true := by
        intro i hi
        have := hins i _ (Array.getElem?_eq_getElem hi)
        simp only [chkIns, Bool.and_eq_true] at this
        exact this.1.1.2
      obtain ⟨h1, h2⟩ := RunR.front (hsm j hjlt) A (fun i hi => by
        obtain ⟨k1, k2, k3⟩ := hA i hi
        refine ⟨hsm i k2, (hap i j k1 hjlt).resolve_right (by rw [k3]; simp), ?_⟩
        cases hc : ((dat i).toRec (ins i)).clash ((dat j).toRec (ins j)) with
        | false => rfl
        | true => have := hcl i j k1 hjlt hc; rw [k3] at this; cases this) hr
      have hne : ∀ k ∈ A ++ C, k ≠ j := by
        intro k hk e
        subst e
        rcases List.mem_append.1 hk with h | h
        · exact absurd (hA k h).1 (Nat.lt_irrefl _)
        · have := (List.pairwise_append.1 hpw).2.1
          rw [List.pairwise_cons] at this
          exact absurd (this.1 k h) (Nat.lt_irrefl _)
      refine what_wp (s := s) hoj (hnt ▸ hins j oj hoj) h1 hsim (fun b hb => hb.2 j (by simp)) ⟨_, fun b hb => hb.1⟩ (by omega) fun a' w' hs => ?_
      have hget : ∀ i, (listed.setIfInBounds j true).getD i true = if i = j then true else listed.getD i true := by
        intro i
        simp only [Array.getD_eq_getD_getElem?, Array.getElem?_setIfInBounds]
        by_cases e : j = i
        · subst e; simp [hsz, hjlt]
        · have : ¬ i = j := fun h => e h.symm
          simp [e, this]
      refine ih _ (A ++ C) _ a' w' (by simp at hlen ⊢; omega) (by simpa using hsz) ?_ (fun i => ?_) (fun k hk hl i hi hilt => ?_) (by rw [afterD, after, putW_nt, hnt]) h2 (hs.weaken fun b hb => NL.next hjlt hne hb)
      · exact hpw.sublist (by simp)
      · rw [hget]
        constructor
        · intro hi
          have hij := hne i hi
          have := (hmem i).1 (mem_mid hi)
          exact ⟨this.1, by rw [if_neg hij]; exact this.2⟩
        · rintro ⟨h1, h2⟩
          by_cases e : i = j
          · rw [if_pos e] at h2; cases h2
          · rw [if_neg e] at h2
            exact mem_mid' ((hmem i).2 ⟨h1, h2⟩) e
      · rw [hget] at hl ⊢
        by_cases e : i = j
        · rw [if_pos e]
        · rw [if_neg e]
          by_cases e' : k = j
          · subst e'; exact hpre' i hi hilt
          · rw [if_neg e'] at hl; exact hclo k hk hl i hi hilt
theorem insS_quiet {Ok : Nat → List PV → Own → PV → Prop} {E : Env} {r : RIns} {nm : Nat} {st : St} {K : St → Prop} (hq : r.op.quiet = true) (hg : r.guard = none) :
    insS G Ok E r nm st K ↔ ∃ e, step st.σ nm (st.ev G) r.op = some e ∧ K (putW st r.dst e.v st.σ) := by
  obtain ⟨dst, op, guard, pre⟩ := r
  simp only at hq hg
  subst hg
  have hs : insS G Ok E ⟨dst, op, none, pre⟩ nm st K = opW G Ok ⟨dst, op, none, pre⟩ nm st (fun st' _ => K st') := by
    cases op <;> first | (simp [ROp.quiet] at hq; done) | rfl
  have ho : opW G Ok ⟨dst, op, none, pre⟩ nm st (fun st' _ => K st') ↔ ∃ e, step st.σ nm (st.ev G) op = some e ∧ K (putW st dst e.v (upAll st.σ e.up)) := by
    have : opW G Ok ⟨dst, op, none, pre⟩ nm st (fun st' _ => K st') = (match st with
      | ⟨tm, σ, nx, nt⟩ => match step σ nm (St.ev G ⟨tm, σ, nx, nt⟩) op with
        | some e => upAllK σ e.up fun σ' => putK ⟨tm, σ, nx, nt⟩ dst e.v σ' fun st' => K st'
        | none => False) := by
      cases op <;> first | (simp [ROp.quiet] at hq; done) | rfl
    rw [this]
    obtain ⟨tm, σ, nx, nt⟩ := st
    simp only
    cases step σ nm (St.ev G ⟨tm, σ, nx, nt⟩) op with
    | none => simp
    | some e => simp [upAllK_eq, putK_eq]
  rw [hs, ho]
  constructor
  · rintro ⟨e, he, hK⟩
    rw [quiet_up hq he] at hK
    exact ⟨e, he, hK⟩
  · rintro ⟨e, he, hK⟩
    refine ⟨e, he, ?_⟩
    rw [quiet_up hq he]
    exact hK

/-- Operations in the order of a list. -/
def opsL (G : Gl) (Ok : Nat → List PV → Own → PV → Prop) (E : Env) (ins : Nat → RIns) (nx0 : Nat) : List Nat → St → (St → Prop) → Prop
  | [], s, K => K s
  | i :: L, s, K => insS G Ok E (ins i) (nx0 + stride * i) s fun s' => opsL G Ok E ins nx0 L s' K

theorem opsL_of {Ok : Nat → List PV → Own → PV → Prop} {E : Env} (full : List RIns) : ∀ (l : List RIns) (k : Nat) (s : St) (K : St → Prop), full.drop k = l → opsS G Ok E l (nx0 + stride * k) s K → opsL G Ok E (fun i => full.getD i default) nx0 (List.range' k l.length) s K
  | [], k, s, K, _, h => h
  | r :: l, k, s, K, hd, h => by
    have hrk : full.getD k default = r := by
      have : (full.drop k)[0]? = some r := by rw [hd]; rfl
      rw [List.getElem?_drop] at this
      simp only [Nat.add_zero] at this
      simp [List.getD, this]
    have hdrop : full.drop (k + 1) = l := by
      have := congrArg (List.drop 1) hd
      rw [List.drop_drop] at this
      simpa using this
    have e : nx0 + stride * k + stride = nx0 + stride * (k + 1) := by rw [Nat.mul_succ]; omega
    simp only [opsS, forceN_eq, e] at h
    show insS G Ok E (full.getD k default) (nx0 + stride * k) s (fun s' => opsL G Ok E (fun i => full.getD i default) nx0 (List.range' (k + 1) l.length) s' K)
    rw [hrk]
    have mono : ∀ s', opsS G Ok E l (nx0 + stride * (k + 1)) s' K = opsL G Ok E (fun i => full.getD i default) nx0 (List.range' (k + 1) l.length) s' K := fun s' => opsL_eq full l (k + 1) s' K hdrop
    rw [show (fun s' => opsL G Ok E (fun i => full.getD i default) nx0 (List.range' (k + 1) l.length) s' K) = fun s' => opsS G Ok E l (nx0 + stride * (k + 1)) s' K from funext fun s' => (mono s').symm]
    exact h
where
  opsL_eq (full : List RIns) : ∀ (l : List RIns) (k : Nat) (s : St) (K : St → Prop), full.drop k = l → opsS G Ok E l (nx0 + stride * k) s K = opsL G Ok E (fun i => full.getD i default) nx0 (List.range' k l.length) s K
    | [], k, s, K, _ => rfl
    | r :: l, k, s, K, hd => by
      have hrk : full.getD k default = r := by
        have : (full.drop k)[0]? = some r := by rw [hd]; rfl
        rw [List.getElem?_drop] at this
        simp only [Nat.add_zero] at this
        simp [List.getD, this]
      have hdrop : full.drop (k + 1) = l := by
        have := congrArg (List.drop 1) hd
        rw [List.drop_drop] at this
        simpa using this
      have e : nx0 + stride * k + stride = nx0 + stride * (k + 1) := by rw [Nat.mul_succ]; omega
      simp only [opsS, forceN_eq, e]
      show _ = insS G Ok E (full.getD k default) (nx0 + stride * k) s (fun s' => opsL G Ok E (fun i => full.getD i default) nx0 (List.range' (k + 1) l.length) s' K)
      rw [hrk]
      congr 1
      funext s'
      exact opsL_eq full l (k + 1) s' K hdrop

theorem opsL_front {Ok : Nat → List PV → Own → PV → Prop} {E : Env} {j : Nat} {C : List Nat} {K : St → Prop} (hj : smallT (ins j) = true) : ∀ (A : List Nat) (s : St),
    (∀ i ∈ A, smallT (ins i) = true ∧ apartT (ins i) (ins j) = true ∧ calmPair (ins i) (ins j) = true) →
    opsL G Ok E ins nx0 (A ++ j :: C) s K → insS G Ok E (ins j) (nx0 + stride * j) s fun s' => opsL G Ok E ins nx0 (A ++ C) s' K
  | [], s, _, h => h
  | i :: A, s, hA, h => by
    obtain ⟨si, ap, cp⟩ := hA i (by simp)
    simp only [calmPair, Bool.and_eq_true, Option.isNone_iff_eq_none] at cp
    obtain ⟨⟨⟨gi, gj⟩, qi⟩, qj⟩ := cp
    obtain ⟨a1, a2, a3⟩ := apartT_spec ap
    obtain ⟨ri, di⟩ := smallT_spec si
    obtain ⟨rj, dj⟩ := smallT_spec hj
    obtain ⟨ei, hei, h⟩ := (insS_quiet qi gi).1 h
    have h := opsL_front hj A _ (fun k hk => hA k (by simp [hk])) h
    obtain ⟨ej, hej, h⟩ := (insS_quiet qj gj).1 h
    have evs : ∀ (r x : RIns) (v : AV), (∀ t ∈ r.reads, t < 1024) → (∀ d, x.dst = some d → d < 1024) → (∀ t ∈ r.reads, x.dst ≠ some t) → ∀ y ∈ r.op.operands, (putW s x.dst v s.σ).ev G y = s.ev G y := by
      intro r x v hr hx hne y hy
      cases y with
      | t n =>
        have hn : n ∈ r.reads := List.mem_append_left _ (List.mem_flatten.2 ⟨[n], List.mem_map.2 ⟨_, hy, rfl⟩, by simp⟩)
        show (putW s x.dst v s.σ).tm.get tdepth n = _
        rw [get_put (hr n hn) hx, if_neg (hne n hn)]
        rfl
      | c v => rfl
      | f g => rfl
      | g i => rfl
    rw [putW_σ] at hej h
    have hej' : step s.σ (nx0 + stride * j) (s.ev G) (ins j).op = some ej := step_frame hej (fun y hy => (evs (ins j) (ins i) ei.v rj di a1 y hy).symm) fun b _ => ⟨.of_eq rfl, fun _ => rfl⟩
    refine (insS_quiet qj gj).2 ⟨ej, hej', ?_⟩
    show insS G Ok E (ins i) (nx0 + stride * i) _ fun s' => opsL G Ok E ins nx0 (A ++ C) s' K
    refine (insS_quiet qi gi).2 ⟨ei, ?_, ?_⟩
    · rw [putW_σ]
      exact step_frame hei (fun y hy => evs (ins i) (ins j) ej.v ri dj a2 y hy) fun b _ => ⟨.of_eq rfl, fun _ => rfl⟩
    · rw [putW_σ, putW_comm dj di fun x y hx hy => (a3 y x hy hx).symm]
      exact h

theorem region_calm {E : Env} (hE : EnvOk P G E ro B w0 I0 gh) (hins : ∀ i o, ops[i]? = some o → chkIns P ops nt o (ins i) = true)
    (hpre : ∀ i o, ops[i]? = some o → (∀ x, (ins i).pre.testBit x = true → ∃ e ∈ o.after.toList, Region.binds .any e = true ∧ (e.on = x ∨ (ins e.on).pre.testBit x = true)) ∧ ∀ e ∈ o.after.toList, Region.binds .any e = true → e.on < i)
    (hap : ∀ i j, i < j → j < ops.size → apartT (ins i) (ins j) = true ∨ (ins j).pre.testBit i = true)
    (hcl : ∀ i j, i < j → j < ops.size → calmPair (ins i) (ins j) = true ∨ (ins j).pre.testBit i = true)
    (hn0 : gh.n0 ≤ nx0) {KK : St → Prop} (hQ : ∀ s' a' w', KK s' → s'.nt = nt → nx0 + stride * ops.size ≤ s'.nx → Sim P G B w0 I0 gh (fun b => b < s'.nx) s' a' w' → Q .normal a' w') :
    ∀ (fuel : Nat) (listed : Array Bool) (L : List Nat) (s : St) (a : Act) (w : World), L.length ≤ fuel → listed.size = ops.size → L.Pairwise (· < ·) → (∀ i, i ∈ L ↔ i < ops.size ∧ listed.getD i true = false) →
      (∀ j, j < ops.size → listed.getD j true = true → ∀ i, (ins j).pre.testBit i = true → i < ops.size → listed.getD i true = true) → s.nt = nt → nx0 + stride * ops.size ≤ s.nx →
      opsL G (OkC P G) E ins nx0 L s KK → Sim P G B w0 I0 gh (NS nx0 L s) s a w → wpAnyIn (Fw ro) n P .any ops Q fuel listed a w := by
  intro fuel
  have done : ∀ (s : St) (a : Act) (w : World), s.nt = nt → nx0 + stride * ops.size ≤ s.nx → KK s → Sim P G B w0 I0 gh (NS nx0 [] s) s a w → Q .normal a w :=
    fun s a w hnt hnx hr hsim => hQ s a w hr hnt hnx (hsim.weaken fun b h => h.1)
  have noReady : ∀ (listed : Array Bool) (L : List Nat), listed.size = ops.size → L.Pairwise (· < ·) → (∀ i, i ∈ L ↔ i < ops.size ∧ listed.getD i true = false) → Region.ready .any ops listed = [] → L = [] := by
    intro listed L hsz hpw hmem hr
    cases L with
    | nil => rfl
    | cons j C =>
      exfalso
      obtain ⟨hj1, hj2⟩ := (hmem j).1 (by simp)
      have hoj : ops[j]? = some ops[j] := Array.getElem?_eq_getElem hj1
      have : j ∈ Region.ready .any ops listed := mem_ready.2 ⟨hj2, ops[j], hoj, fun e he hb => by
        have hlt := (hpre j _ hoj).2 e (by simpa using he) hb
        rw [getD_false (by omega)]
        cases hl : listed.getD e.on true with
        | true => rfl
        | false =>
          have hin := (hmem e.on).2 ⟨by omega, hl⟩
          simp only [List.pairwise_cons] at hpw
          rcases List.mem_cons.1 hin with h | h
          · omega
          · have := hpw.1 _ h; omega⟩
      rw [hr] at this; cases this
  induction fuel with
  | zero =>
    intro listed L s a w hlen hsz hpw hmem hclo hnt hnx hr hsim
    have hL : L = [] := List.eq_nil_of_length_eq_zero (by omega)
    subst hL
    refine ⟨?_, done s a w hnt hnx hr hsim⟩
    cases hrd : Region.ready .any ops listed with
    | nil => rfl
    | cons j l =>
      exfalso
      have : j ∈ Region.ready .any ops listed := by rw [hrd]; simp
      obtain ⟨h1, oj, h2, _⟩ := mem_ready.1 this
      have := (hmem j).2 ⟨(Array.getElem?_eq_some_iff.1 h2).1, h1⟩
      cases this
  | succ fuel ih =>
    intro listed L s a w hlen hsz hpw hmem hclo hnt hnx hr hsim
    refine ⟨fun h0 => ?_, fun j hj => ?_⟩
    · have := noReady listed L hsz hpw hmem h0
      subst this
      exact done s a w hnt hnx hr hsim
    · obtain ⟨hj1, oj, hoj, hall⟩ := mem_ready.1 hj
      have hjlt : j < ops.size := (Array.getElem?_eq_some_iff.1 hoj).1
      have hjL : j ∈ L := (hmem j).2 ⟨hjlt, hj1⟩
      obtain ⟨A, C, rfl⟩ := List.append_of_mem hjL
      have hpre' : ∀ i, (ins j).pre.testBit i = true → i < ops.size → listed.getD i true = true := by
        intro i hi hilt
        obtain ⟨e, he, hb, hx⟩ := (hpre j oj hoj).1 i hi
        have hl := hall e (by simpa using he) hb
        have helt := (hpre j oj hoj).2 e he hb
        rw [getD_false (by omega)] at hl
        rcases hx with rfl | hx
        · exact hl
        · exact hclo e.on (by omega) hl i hx hilt
      have hA : ∀ i ∈ A, i < j ∧ i < ops.size ∧ (ins j).pre.testBit i = false := by
        intro i hi
        have hij : i < j := (List.pairwise_append.1 hpw).2.2 i hi j (by simp)
        refine ⟨hij, by omega, ?_⟩
        cases hb : (ins j).pre.testBit i with
        | false => rfl
        | true =>
          have h1 := hpre' i hb (by omega)
          have h2 := ((hmem i).1 (by simp [hi])).2
          rw [h1] at h2; cases h2
      have hsm : ∀ i, i < ops.size → smallT (ins i) = true := by
        intro i hi
        have := hins i _ (Array.getElem?_eq_getElem hi)
        simp only [chkIns, Bool.and_eq_true] at this
        exact this.1.1.2
      have hfr := opsL_front (hsm j hjlt) A s (fun i hi => by
        obtain ⟨k1, k2, k3⟩ := hA i hi
        exact ⟨hsm i k2, (hap i j k1 hjlt).resolve_right (by rw [k3]; simp), (hcl i j k1 hjlt).resolve_right (by rw [k3]; simp)⟩) hr
      have hne : ∀ k ∈ A ++ C, k ≠ j := by
        intro k hk e
        subst e
        rcases List.mem_append.1 hk with h | h
        · exact absurd (hA k h).1 (Nat.lt_irrefl _)
        · have := (List.pairwise_append.1 hpw).2.1
          rw [List.pairwise_cons] at this
          exact absurd (this.1 k h) (Nat.lt_irrefl _)
      have hb : ∀ j, j < ops.size → nx0 + stride * j + stride ≤ s.nx := by
        intro j hj
        have e : stride * (j + 1) ≤ stride * ops.size := Nat.mul_le_mul_left _ hj
        rw [Nat.mul_succ] at e; omega
      refine insS_wp (s := s) (L := A ++ C) hE hoj (hnt ▸ hins j oj hoj) hn0 (hb j hjlt) (fun k hk => ⟨(hne k hk).symm, hb k ((hmem k).1 (mem_mid hk)).1⟩) hfr
        (hsim.weaken fun b h => ⟨h.1, fun k hk => h.2 k ((List.mem_cons.1 hk).elim (fun e => by rw [e]; simp) fun e => mem_mid e)⟩) fun s' a' w' hK hnt' hnx' hs => ?_
      have hget : ∀ i, (listed.setIfInBounds j true).getD i true = if i = j then true else listed.getD i true := by
        intro i
        simp only [Array.getD_eq_getD_getElem?, Array.getElem?_setIfInBounds]
        by_cases e : j = i
        · subst e; simp [hsz, hjlt]
        · have : ¬ i = j := fun h => e h.symm
          simp [e, this]
      refine ih _ (A ++ C) s' a' w' (by simp at hlen ⊢; omega) (by simpa using hsz) ?_ (fun i => ?_) (fun k hk hl i hi hilt => ?_) (hnt'.trans hnt) (by omega) hK hs
      · exact hpw.sublist (by simp)
      · rw [hget]
        constructor
        · intro hi
          have hij := hne i hi
          have := (hmem i).1 (mem_mid hi)
          exact ⟨this.1, by rw [if_neg hij]; exact this.2⟩
        · rintro ⟨h1, h2⟩
          by_cases e : i = j
          · rw [if_pos e] at h2; cases h2
          · rw [if_neg e] at h2
            exact mem_mid' ((hmem i).2 ⟨h1, h2⟩) e
      · rw [hget] at hl ⊢
        by_cases e : i = j
        · rw [if_pos e]
        · rw [if_neg e]
          by_cases e' : k = j
          · subst e'; exact hpre' i hi hilt
          · rw [if_neg e'] at hl; exact hclo k hk hl i hi hilt
end
end Go.Ab

/- Dropping and numbering anew is sound. Under: nothing. -/
namespace Go.Ab
open Go.RowKit

theorem idxIn_spec : ∀ {l : List Nat} {b k n : Nat}, idxIn l b k = some n → k ≤ n ∧ n < k + l.length ∧ l[n - k]? = some b
  | [], _, _, _, h => by simp [idxIn] at h
  | x :: l, b, k, n, h => by
    simp only [idxIn] at h
    split at h
    · rename_i hx
      cases h
      simp at hx
      subst hx
      exact ⟨Nat.le_refl _, by simp, by simp⟩
    · obtain ⟨h1, h2, h3⟩ := idxIn_spec h
      refine ⟨by omega, by simp; omega, ?_⟩
      have e : n - k = (n - (k + 1)) + 1 := by omega
      rw [e]; simpa using h3

theorem find_normS (f : Nat → Option Nat) (σ : Store) : ∀ (l : List Nat) (k n : Nat) (o : SObj), find (normS f σ l k) n = some o → k ≤ n ∧ ∃ b o', l[n - k]? = some b ∧ find σ b = some o' ∧ o = renO f o'
  | [], _, _, _, h => by simp [normS, find] at h
  | b :: l, k, n, o, h => by
    simp only [normS, find] at h
    split at h
    · rename_i hk
      simp at hk; subst hk
      split at h
      · rename_i o' ho'
        cases h
        exact ⟨Nat.le_refl _, b, o', by simp, ho', rfl⟩
      · cases h
    · obtain ⟨h1, b', o', h2, h3, h4⟩ := find_normS f σ l (k + 1) n o h
      refine ⟨by omega, b', o', ?_, h3, h4⟩
      have e : n - k = (n - (k + 1)) + 1 := by omega
      rw [e]; simpa using h2

theorem reach_nodup (σ : Store) : ∀ (n : Nat) (todo acc : List Nat), acc.Nodup → (reach σ n todo acc).Nodup
  | 0, _, acc, h => by simpa [reach] using h
  | n + 1, [], acc, h => by simpa [reach] using h
  | n + 1, b :: todo, acc, h => by
    simp only [reach]
    split
    · exact reach_nodup σ n todo acc h
    · rename_i hb
      split
      · exact reach_nodup σ n todo acc h
      · refine reach_nodup σ n _ _ ?_
        rw [List.nodup_append]
        refine ⟨h, by simp, fun x hx y hy => ?_⟩
        simp at hy; subst hy
        intro e; subst e
        simp only [List.any_eq_false, beq_iff_eq] at hb
        exact hb x hx rfl

theorem renO_es (f : Nat → Option Nat) (o : SObj) : (renO f o).es = o.es := by cases o <;> rfl
theorem renO_len (f : Nat → Option Nat) (o : SObj) : (renO f o).len = o.len := by cases o <;> simp [renO, SObj.len]
theorem renO_sealed (f : Nat → Option Nat) (o : SObj) : (renO f o).sealed = o.sealed := by cases o <;> rfl

theorem renL_map (f : Nat → Option Nat) : ∀ l : List AV, renL f l = l.map (renA f)
  | [] => rfl
  | a :: l => by simp only [renL, List.map_cons]; rw [renL_map f l]

theorem renO_row (f : Nat → Option Nat) (o : SObj) (i : Nat) (row : List AV) (h : (renO f o).row? i = some row) : ∃ row', o.row? i = some row' ∧ row = row'.map (renA f) := by
  cases o with
  | map l => simp [renO, SObj.row?] at h
  | arr e r s =>
    refine ⟨row, h, ?_⟩
    simp only [renO, SObj.row?] at h
    split at h
    · cases h
      simp only [List.map_map]
      apply List.map_congr_left
      intro p _; rfl
    · cases h
  | box e r s =>
    simp only [renO, SObj.row?, List.getElem?_map, Option.map_eq_some_iff] at h
    obtain ⟨row', h1, rfl⟩ := h
    exact ⟨row', h1, renL_map f row'⟩

section
variable {B : Nat} {w0 : World} {I0 : Imm} {w : World} {I : Imm} {ι : Nat → Option Nat} {σ : Store} {D : Nat → Prop} {ns : List Nat}

/-- The numbers' blocks. -/
def normι (ι : Nat → Option Nat) (ns : List Nat) : Nat → Option Nat := fun n => (ns[n]?).bind ι
def normD (ns : List Nat) : Nat → Prop := fun n => n < ns.length

theorem norm_find {n : Nat} {o : SObj} (h : find (normS (fun b => idxIn ns b 0) σ ns 0) n = some o) : ∃ b o', ns[n]? = some b ∧ find σ b = some o' ∧ o = renO (fun b => idxIn ns b 0) o' ∧ normι ι ns n = ι b := by
  obtain ⟨_, b, o', h1, h2, h3⟩ := find_normS _ _ _ _ _ _ h
  simp only [Nat.sub_zero] at h1
  exact ⟨b, o', h1, h2, h3, by simp [normι, h1]⟩

theorem RepA.normD' {D' : Nat → Prop} (hD' : ∀ n b, ns[n]? = some b → D b → D' n) {v : Value} {a : AV} (h : RepA w I ι σ D v a) : RepA w I (normι ι ns) (normS (fun b => idxIn ns b 0) σ ns 0) D' v (renA (fun b => idxIn ns b 0) a) := by
  have key : ∀ {b n : Nat}, idxIn ns b 0 = some n → D b → D' n ∧ ns[n]? = some b := by
    intro b n h hb
    obtain ⟨_, h2, h3⟩ := idxIn_spec h
    simp only [Nat.sub_zero] at h3
    exact ⟨hD' n b h3 hb, h3⟩
  induction h with
  | pv h => simp only [renA]; exact .pv h
  | emp es => simp only [renA]; exact .emp es
  | fsl h => simp only [renA]; exact .fsl h
  | ptr hD h1 h =>
    simp only [renA]
    split
    · rename_i n hn
      obtain ⟨k1, k2⟩ := key hn hD
      refine .ptr k1 h1 fun o ho => ?_
      obtain ⟨b', o', g1, g2, g3, g4⟩ := norm_find (ι := ι) ho
      rw [k2] at g1; cases g1
      obtain ⟨r, hr, hv⟩ := h o' g2
      exact ⟨r, g4.trans hr, by rw [g3, renO_es]; exact hv⟩
    · exact .undef _
  | own hD h1 h =>
    simp only [renA]
    split
    · rename_i n hn
      obtain ⟨k1, k2⟩ := key hn hD
      refine .own k1 h1 fun o ho => ?_
      obtain ⟨b', o', g1, g2, g3, g4⟩ := norm_find (ι := ι) ho
      rw [k2] at g1; cases g1
      obtain ⟨p, cap, hv, hlen, hcap, hcase⟩ := h o' g2
      refine ⟨p, cap, hv, by rw [g3, renO_len]; exact hlen, ⟨hcap.1, by rw [g3, renO_len]; exact hcap.2⟩, ?_⟩
      rcases hcase with hx | ⟨r, c, T, fz, h1, h2, h3, h4⟩
      · exact .inl hx
      · exact .inr ⟨r, c, T, fz, g4.trans h1, by rw [g3, renO_es]; exact h2, h3, by rw [g3, renO_es]; exact h4⟩
    · exact .undef _
  | mref hD h1 h =>
    simp only [renA]
    split
    · rename_i n hn
      obtain ⟨k1, k2⟩ := key hn hD
      refine .mref k1 h1 fun o ho => ?_
      obtain ⟨b', o', g1, g2, g3, g4⟩ := norm_find (ι := ι) ho
      rw [k2] at g1; cases g1
      obtain ⟨r, hr, hv⟩ := h o' g2
      exact ⟨r, g4.trans hr, hv⟩
    · exact .undef _
  | agg hl _ ih =>
    simp only [renA, renL_map]
    refine .agg (by simpa using hl) fun j x q hx hq => ?_
    rw [List.getElem?_map, Option.map_eq_some_iff] at hq
    obtain ⟨q', hq', rfl⟩ := hq
    exact ih j x q' hx hq'
  | tup hl _ ih =>
    simp only [renA, renL_map]
    refine .tup (by simpa using hl) fun j x q hx hq => ?_
    rw [List.getElem?_map, Option.map_eq_some_iff] at hq
    obtain ⟨q', hq', rfl⟩ := hq
    exact ih j x q' hx hq'
  | func hl hl' _ _ ih ih' =>
    simp only [renA, renL_map]
    refine .func (by simpa using hl) (by simpa using hl') (fun j x q hx hq => ?_) (fun j x q hx hq => ?_)
    · rw [List.getElem?_map, Option.map_eq_some_iff] at hq
      obtain ⟨q', hq', rfl⟩ := hq
      exact ih j x q' hx hq'
    · rw [List.getElem?_map, Option.map_eq_some_iff] at hq
      obtain ⟨q', hq', rfl⟩ := hq
      exact ih' j x q' hx hq'
  | anyB b => simp only [renA]; exact .anyB b
  | yld hD h =>
    simp only [renA]
    split
    · rename_i n hn
      obtain ⟨k1, k2⟩ := key hn hD
      exact .yld k1 (by simp [normι, k2, h])
    · exact .undef _
  | mark v k => simp only [renA]; exact .mark v k
  | undef v => simp only [renA]; exact .undef v

theorem RepA.norm {v : Value} {a : AV} (h : RepA w I ι σ D v a) : RepA w I (normι ι ns) (normS (fun b => idxIn ns b 0) σ ns 0) (normD ns) v (renA (fun b => idxIn ns b 0) a) :=
  RepA.normD' (fun _ _ h _ => (List.getElem?_eq_some_iff.1 h).1) h

theorem SimS.normD' {D' : Nat → Prop} (hD' : ∀ n b, ns[n]? = some b → D b → D' n) (hs : SimS B w I ι σ D) (hnd : ns.Nodup) : SimS B w I (normι ι ns) (normS (fun b => idxIn ns b 0) σ ns 0) D' := by
  refine ⟨hs.bnd, fun n o h => ?_, fun n n' o o' r h h' e e' => ?_, fun n o r h e => ?_, fun n o r k h e hi => ?_, fun n o h => ?_⟩
  · obtain ⟨b, o', h1, h2, h3, h4⟩ := norm_find (ι := ι) h
    exact hD' _ _ h1 (hs.dom b o' h2)
  · obtain ⟨b, o₁, h1, h2, h3, h4⟩ := norm_find (ι := ι) h
    obtain ⟨b', o₁', h1', h2', h3', h4'⟩ := norm_find (ι := ι) h'
    have : b = b' := hs.inj b b' o₁ o₁' r h2 h2' (h4 ▸ e) (h4' ▸ e')
    subst this
    exact (List.getElem?_inj (List.getElem?_eq_some_iff.1 h1).1 hnd).1 (h1.trans h1'.symm)
  · obtain ⟨b, o₁, h1, h2, h3, h4⟩ := norm_find (ι := ι) h
    exact hs.ge b o₁ r h2 (h4 ▸ e)
  · obtain ⟨b, o₁, h1, h2, h3, h4⟩ := norm_find (ι := ι) h
    rw [h3, renO_sealed, renO_len, renO_es]
    exact hs.sep b o₁ r k h2 (h4 ▸ e) hi
  · obtain ⟨b, o₁, h1, h2, h3, h4⟩ := norm_find (ι := ι) h
    have hob := hs.obj b o₁ h2
    subst h3
    have rows : RowsRep w I ι σ D b o₁ → RowsRep w I (normι ι ns) (normS (fun b => idxIn ns b 0) σ ns 0) D' n (renO (fun b => idxIn ns b 0) o₁) := by
      intro hR
      rcases hR with ⟨g1, g2⟩ | ⟨r, c, T, fz, g1, g2, g3, g4, g5⟩
      · exact .inl ⟨h4.trans g1, by rw [renO_len]; exact g2⟩
      · refine .inr ⟨r, c, T, fz, h4.trans g1, g2, g3, by rw [renO_len, renO_es]; exact g4, fun i row hrow => ?_⟩
        obtain ⟨row', k1, rfl⟩ := renO_row _ _ _ _ hrow
        obtain ⟨k2, k3⟩ := g5 i row' k1
        refine ⟨by rw [List.length_map, renO_es]; exact k2, fun j v hv => ?_⟩
        rw [List.getElem?_map, Option.map_eq_some_iff] at hv
        obtain ⟨v', hv', rfl⟩ := hv
        obtain ⟨x, hx, hrep⟩ := k3 j v' hv'
        exact ⟨x, by rw [renO_es]; exact hx, hrep.1, hrep.2.normD' hD'⟩
    cases o₁ with
    | arr e r s => exact rows hob
    | box e r s => exact rows hob
    | map ents =>
      obtain ⟨r, es, clock, g1, g2, g3, g4⟩ := hob
      have hlk : ∀ (f : Nat → Option Nat) (k : List UInt8) (l : List (List UInt8 × AV)), lookupE k (l.map fun (k, v) => (k, renA f v)) = (lookupE k l).map (renA f) := by
        intro f k l
        induction l with
        | nil => rfl
        | cons x l ih =>
          obtain ⟨a, v⟩ := x
          simp only [List.map_cons, lookupE]
          split
          · rfl
          · exact ih
      refine ⟨r, es, clock, h4.trans g1, g2, fun e he => ?_, fun k v hv => ?_⟩
      · obtain ⟨k, v, a1, a2, a3⟩ := g3 e he
        exact ⟨k, _, a1, by rw [hlk, a2]; rfl, a3.normD' hD'⟩
      · rw [hlk, Option.map_eq_some_iff] at hv
        obtain ⟨v', hv', _⟩ := hv
        exact g4 k v' hv'
theorem SimS.norm (hs : SimS B w I ι σ D) (hnd : ns.Nodup) : SimS B w I (normι ι ns) (normS (fun b => idxIn ns b 0) σ ns 0) (normD ns) :=
  hs.normD' (fun _ _ h _ => (List.getElem?_eq_some_iff.1 h).1) hnd
end

theorem get_normT (f : Nat → Option Nat) (tm : T) : ∀ (l : List Nat) (acc : T) (t : Nat), (normT f tm l acc).get tdepth t = acc.get tdepth t ∨ (∃ u, u % 2 ^ tdepth = t % 2 ^ tdepth ∧ (normT f tm l acc).get tdepth t = renA f (tm.get tdepth u))
  | [], acc, t => .inl rfl
  | u :: l, acc, t => by
    simp only [normT]
    rcases get_normT f tm l (acc.set tdepth u (renA f (tm.get tdepth u))) t with h | h
    · rw [h, get_set]
      by_cases e : t % 2 ^ tdepth = u % 2 ^ tdepth
      · rw [if_pos e]; exact .inr ⟨u, e.symm, rfl⟩
      · rw [if_neg e]; exact .inl rfl
    · exact .inr h

theorem get_mod : ∀ (d : Nat) (t : T) (n m : Nat), n % 2 ^ d = m % 2 ^ d → t.get d n = t.get d m
  | 0, t, n, m, _ => by cases t <;> simp [T.get]
  | d + 1, t, n, m, h => by
    have hmod : ∀ x : Nat, x % 2 ^ (d + 1) = x % 2 + 2 * (x / 2 % 2 ^ d) := by
      intro x; rw [Nat.pow_succ, Nat.mul_comm, Nat.mod_mul]
    rw [hmod, hmod] at h
    have h2 : n % 2 = m % 2 := by omega
    have hq : n / 2 % 2 ^ d = m / 2 % 2 ^ d := by omega
    cases t with
    | nil => simp [T.get]
    | leaf v => simp [T.get]
    | node l r =>
      simp only [T.get, h2]
      split
      · exact get_mod d l _ _ hq
      · exact get_mod d r _ _ hq

theorem get_nil (d n : Nat) : T.get d .nil n = .undef := by cases d <;> simp [T.get]

theorem Sim.norm {P : Program} {G : Gl} {B : Nat} {w0 : World} {I0 : Imm} {N : Nat → Prop} {s : St} {a : Act} {w : World} (h : Sim P G B w0 I0 .top N s a w) (live : List Nat) :
    Sim P G B w0 I0 .top (fun b => b < (norm live s).nx) (Ab.norm live s) a w := by
  obtain ⟨I, ι, D, hx⟩ := h
  have hnd : (normNames live s).Nodup := reach_nodup _ _ _ _ (by simp)
  obtain ⟨hs, b1, b2, b3, b4⟩ := hx.core
  refine ⟨I, normι ι (normNames live s), normD (normNames live s), ⟨hs.norm hnd, b1, b2, b3, b4⟩, fun b hb => hb, hx.dfs, hx.size, hx.glob, fun t ht => ?_, fun _ _ h => h.elim, fun _ _ => .inl trivial, fun _ _ h => h.elim, fun _ h => by cases h⟩
  show RepA w I _ _ _ _ ((normT _ s.tm live .nil).get tdepth t)
  rcases get_normT (fun b => idxIn (normNames live s) b 0) s.tm live .nil t with h | ⟨u, hu, h⟩
  · rw [h, get_nil]; exact .undef _
  · rw [h, get_mod tdepth s.tm u t hu]
    exact (hx.tm t ht).norm

theorem normT_append (f : Nat → Option Nat) (tm : T) : ∀ (l m : List Nat) (acc : T), normT f tm (l ++ m) acc = normT f tm m (normT f tm l acc)
  | [], _, _ => rfl
  | t :: l, m, acc => by simp only [List.cons_append, normT]; exact normT_append f tm l m _
theorem lowNs_at {n0 : Nat} {live : List Nat} {s : St} {b : Nat} (h : b < n0) : (lowNs n0 live s)[b]? = some b := by
  unfold lowNs
  rw [List.getElem?_append_left (by simpa using h)]
  simp [h]
theorem lowNs_nodup (n0 : Nat) (live : List Nat) (s : St) : (lowNs n0 live s).Nodup := by
  unfold lowNs
  rw [List.nodup_append]
  refine ⟨List.nodup_range, (reach_nodup _ _ _ _ (by simp)).filter _, fun x hx y hy e => ?_⟩
  subst e
  have h1 := List.mem_range.1 hx
  have h2 := (List.mem_filter.1 hy).2
  have := Nat.le_of_ble_eq_true h2
  omega
theorem idxIn_at {l : List Nat} (hn : l.Nodup) {b n k : Nat} (h : l[n]? = some b) : idxIn l b k = some (n + k) := by
  induction l generalizing n k with
  | nil => simp at h
  | cons x l ih =>
    cases n with
    | zero =>
      simp at h
      subst h
      simp [idxIn]
    | succ n =>
      simp only [List.getElem?_cons_succ] at h
      have hne : x ≠ b := fun e => by subst e; exact (List.nodup_cons.1 hn).1 (List.mem_of_getElem? h)
      have hb : (x == b) = false := by simpa using hne
      simp only [idxIn, hb]
      rw [ih (List.nodup_cons.1 hn).2 h]
      congr 1; omega
theorem RepA.low {w : World} {I : Imm} {ι : Nat → Option Nat} {σ : Store} {D : Nat → Prop} {n : Nat} (hD : ∀ b, D b → b < n) {v : Value} {a : AV} (h : RepA w I ι σ D v a) : lowA n a := by
  intro f hf
  have all : ∀ (m : Nat) (g : Nat → Option Value) (l : List AV), m = l.length → (∀ j, j < m → ∃ x, g j = some x) → (∀ (j : Nat) (x : Value) (q : AV), g j = some x → l[j]? = some q → renA f q = q) → renL f l = l := by
    intro m g l hm hg hl
    rw [renL_map]
    apply List.ext_getElem?
    intro j
    rw [List.getElem?_map]
    cases hq : l[j]? with
    | none => rfl
    | some q =>
      obtain ⟨x, hx⟩ := hg j (by have := (List.getElem?_eq_some_iff.1 hq).1; omega)
      simp [hl j x q hx hq]
  induction h with
  | pv h => simp only [renA]
  | emp es => simp only [renA]
  | fsl h => simp only [renA]
  | ptr hb h1 h => simp only [renA, hf _ (hD _ hb)]
  | own hb h1 h => simp only [renA, hf _ (hD _ hb)]
  | mref hb h1 h => simp only [renA, hf _ (hD _ hb)]
  | agg hl h ih =>
    simp only [renA]
    rw [all _ _ _ hl (fun j hj => ⟨_, Array.getElem?_eq_getElem hj⟩) ih]
  | tup hl h ih =>
    simp only [renA]
    rw [all _ _ _ hl (fun j hj => ⟨_, Array.getElem?_eq_getElem hj⟩) ih]
  | func hl hl' h h' ih ih' =>
    simp only [renA]
    rw [all _ _ _ hl (fun j hj => ⟨_, Array.getElem?_eq_getElem hj⟩) ih, all _ _ _ hl' (fun j hj => ⟨_, Array.getElem?_eq_getElem hj⟩) ih']
  | anyB b => simp only [renA]
  | yld hb h => simp only [renA, hf _ (hD _ hb)]
  | mark v k => simp only [renA]
  | undef v => simp only [renA]
/-- Own names anew where a function runs on its caller's store. -/
theorem SimX.normN {P : Program} {G : Gl} {B : Nat} {w0 : World} {I0 : Imm} {gh : Gh} {N : Nat → Prop} {s : St} {a : Act} {w : World} {I : Imm} {ι : Nat → Option Nat} {D : Nat → Prop} (hx : SimX P G B w0 I0 gh N s a w I ι D) (hlow : ∀ v av, gh.gs v av → lowA gh.n0 av) (live : List Nat) :
    ∃ ι' D', SimX P G B w0 I0 gh (fun b => b < (Ab.normN gh.n0 live s).nx) (Ab.normN gh.n0 live s) a w I ι' D' := by
  have hnd := lowNs_nodup gh.n0 live s
  let ns := lowNs gh.n0 live s
  let D' : Nat → Prop := fun n => ∃ b, ns[n]? = some b ∧ D b
  have hD' : ∀ n b, ns[n]? = some b → D b → D' n := fun n b h1 h2 => ⟨b, h1, h2⟩
  have hf : ∀ b, b < gh.n0 → idxIn ns b 0 = some b := fun b hb => idxIn_at hnd (lowNs_at hb)
  obtain ⟨hs, b1, b2, b3, b4⟩ := hx.core
  refine ⟨normι ι ns, D', ⟨hs.normD' hD' hnd, b1, b2, b3, b4⟩, fun b ⟨c, hc, _⟩ => (List.getElem?_eq_some_iff.1 hc).1, hx.dfs, hx.size, hx.glob, fun t ht => ?_, fun v av hg => ?_, fun b ⟨c, hc, hDc⟩ => ?_, hx.kept, fun p hp => ?_⟩
  · show RepA w I _ _ _ _ ((normT _ s.tm (live ++ [markT]) .nil).get tdepth t)
    rcases get_normT (fun b => idxIn ns b 0) s.tm (live ++ [markT]) .nil t with h | ⟨u, hu, h⟩
    · rw [h, get_nil]; exact .undef _
    · rw [h, get_mod tdepth s.tm u t hu]
      exact (hx.tm t ht).normD' hD'
  · have := (hx.ghost v av hg).normD' (ns := ns) hD'
    rw [hlow v av hg _ hf] at this
    exact this
  · by_cases hb : b < gh.n0
    · have := lowNs_at (live := live) (s := s) hb
      rw [show ns[b]? = some b from this] at hc
      cases hc
      exact hx.base b hDc
    · exact .inr (by omega)
  · obtain ⟨h1, h2, k, h3, h4⟩ := hx.loop p hp
    refine ⟨h1, h2, k, ?_, h4⟩
    show (normT _ s.tm (live ++ [markT]) .nil).get tdepth markT = _
    rw [normT_append]
    simp only [normT]
    rw [get_set, if_pos rfl, h3]
    simp only [renA]
end Go.Ab

/- A nil slice may be seen as an own one without rows. Under: nothing. -/
namespace Go.Ab
open Go.RowKit
section
variable {B : Nat} {w0 : World} {I0 : Imm} {w : World} {I : Imm} {ι : Nat → Option Nat} {σ : Store} {D : Nat → Prop}

theorem inv_emp {v : Value} {a : AV} {es : Nat} (h : RepA w I ι σ D v a) (he : a.e = .emp es) : v = .slice none 0 0 := by
  have := h.e
  rw [he] at this
  cases this
  rfl

theorem rep_sl0 (es : Nat) : RepP w I (.slice none 0 0) (.sl es []) :=
  .sl (fun _ _ => default) rfl (Nat.le_refl _) (fun i row h => by simp at h) (fun h => absurd rfl h) (fun i j row q h => by simp at h)

/-- One cell of a box, seen otherwise. -/
theorem SimS.recell (hs : SimS B w I ι σ D) {b i j es : Nat} {rows : List (List AV)} {row : List AV} {a0 a1 : AV} (hb : find σ b = some (.box es rows false)) (hr : rows[i]? = some row) (hj : row[j]? = some a0)
    (ha : ∀ x, RepA w I ι σ D x a0 → RepA w I ι σ D x a1) :
    SimS B w I ι (upS σ b (some (.box es (rows.set i (row.set j a1)) false))) D ∧ Later w I ι σ D w I ι (upS σ b (some (.box es (rows.set i (row.set j a1)) false))) D := by
  have key : ∀ b' o₁, find (upS σ b (some (.box es (rows.set i (row.set j a1)) false))) b' = some o₁ → (b' = b ∧ o₁ = .box es (rows.set i (row.set j a1)) false) ∨ (b' ≠ b ∧ find σ b' = some o₁) := by
    intro b' o₁ h
    rw [find_upS] at h
    by_cases e : b' = b
    · rw [if_pos e] at h; cases h; exact .inl ⟨e, rfl⟩
    · rw [if_neg e] at h; exact .inr ⟨e, h⟩
  have hL : Later w I ι σ D w I ι (upS σ b (some (.box es (rows.set i (row.set j a1)) false))) D := by
    refine ⟨⟨fun r' k v hi hx => ⟨hx, hi⟩, fun _ h => h, fun b' o₁ hD h => ?_, fun r₁ c₁ T₁ fz₁ h₁ => ⟨c₁, fz₁, h₁, rfl⟩, fun _ _ => rfl⟩, fun _ _ _ h => h⟩
    rcases key b' o₁ h with ⟨rfl, rfl⟩ | ⟨_, h⟩
    · exact ⟨_, hb, rfl, by simp [SObj.len], rfl⟩
    · exact ⟨o₁, h, rfl, rfl, rfl⟩
  refine ⟨⟨hs.bnd, fun b' o₁ h => ?_, fun b₁ b₂ o₁ o₂ r' h₁ h₂ e₁ e₂ => ?_, fun b' o₁ r' h e => ?_, fun b' o₁ r' k h e hi => ?_, fun b' o₁ h => ?_⟩, hL⟩
  · rcases key b' o₁ h with ⟨rfl, rfl⟩ | ⟨_, h⟩
    · exact hs.dom _ _ hb
    · exact hs.dom b' o₁ h
  · rcases key b₁ o₁ h₁ with ⟨rfl, rfl⟩ | ⟨n₁, g₁⟩ <;> rcases key b₂ o₂ h₂ with ⟨rfl, rfl⟩ | ⟨n₂, g₂⟩
    · rfl
    · exact hs.inj _ _ _ _ r' hb g₂ e₁ e₂
    · exact hs.inj _ _ _ _ r' g₁ hb e₁ e₂
    · exact hs.inj _ _ _ _ r' g₁ g₂ e₁ e₂
  · rcases key b' o₁ h with ⟨rfl, rfl⟩ | ⟨_, h⟩
    · exact hs.ge _ _ r' hb e
    · exact hs.ge b' o₁ r' h e
  · rcases key b' o₁ h with ⟨rfl, rfl⟩ | ⟨_, h⟩
    · have := (hs.sep _ _ r' k hb e hi).1
      simp [SObj.sealed] at this
    · exact hs.sep b' o₁ r' k h e hi
  · rcases key b' o₁ h with ⟨rfl, rfl⟩ | ⟨_, h⟩
    · have hob : RowsRep w I ι σ D b' (.box es rows false) := hs.obj _ _ hb
      show RowsRep w I ι _ D b' (.box es (rows.set i (row.set j a1)) false)
      rcases hob with ⟨h1, h2⟩ | ⟨r, c, T, fz, h1, h2, h3, h4, h5⟩
      · exact .inl ⟨h1, by simpa [SObj.len] using h2⟩
      · refine .inr ⟨r, c, T, fz, h1, h2, h3, by simpa [SObj.len, SObj.es] using h4, fun i' row' hrow => ?_⟩
        simp only [SObj.row?, List.getElem?_set] at hrow
        split at hrow
        · rename_i e
          subst e
          split at hrow
          · cases hrow
            obtain ⟨k1, k2⟩ := h5 i row (by simpa [SObj.row?] using hr)
            refine ⟨by simpa [SObj.es] using k1, fun j' v hv => ?_⟩
            rw [List.getElem?_set] at hv
            split at hv
            · rename_i e
              subst e
              split at hv
              · cases hv
                obtain ⟨x, hx, hrep⟩ := k2 j a0 hj
                exact ⟨x, hx, hrep.1, (ha x hrep.2).mono hL⟩
              · cases hv
            · obtain ⟨x, hx, hrep⟩ := k2 j' v hv
              exact ⟨x, hx, hrep.mono hL⟩
          · cases hrow
        · obtain ⟨k1, k2⟩ := h5 i' row' (by simpa [SObj.row?] using hrow)
          refine ⟨k1, fun j' v hv => ?_⟩
          obtain ⟨x, hx, hrep⟩ := k2 j' v hv
          exact ⟨x, hx, hrep.mono hL⟩
    · exact (hs.obj b' o₁ h).mono hL rfl fun _ _ => rfl

theorem SimX.weak {P : Program} {G : Gl} {gh : Gh} {m : Option (Nat × List Nat)} {s s' : St} {a : Act} (hx : SimX P G B w0 I0 gh (fun b => b < s.nx) s a w I ι D) (hn0 : gh.n0 ≤ s.nx) (hm : ∀ n l, m = some (n, l) → n = gh.n0 ∧ ∀ v av, gh.gs v av → lowA n av) (hw : Wk m s s') :
    ∃ ι' D', SimX P G B w0 I0 gh (fun b => b < s'.nx) s' a w I ι' D' := by
  have hn : ¬ D s.nx := fun h => absurd (hx.names _ h) (Nat.lt_irrefl _)
  have sets : ∀ (t : Nat) (av : AV) (σ' : Store) (ι' : Nat → Option Nat) (D' : Nat → Prop) (nx' : Nat), t < 1024 → (∀ k, s.tm.get tdepth t ≠ .mark k) → SimS B w I ι' σ' D' → Later w I ι s.σ D w I ι' σ' D' → RepA w I ι' σ' D' (a.tmps.getD t undef) av → (∀ b, D' b → b < nx') → (∀ b, D' b → gh.D0 b ∨ gh.n0 ≤ b) →
      SimX P G B w0 I0 gh (fun b => b < nx') ⟨s.tm.set tdepth t av, σ', nx', s.nt⟩ a w I ι' D' := by
    intro t av σ' ι' D' nx' ht hmk hS hL hrep hnm hbs
    refine ⟨⟨hS, hx.core.below, hx.core.hB, hx.core.ext, hx.core.old⟩, hnm, hx.dfs, hx.size, hx.glob, fun t' ht' => ?_, fun v av h => (hx.ghost v av h).mono hL, hbs, hx.kept, fun p hp => ?_⟩
    · show RepA w I ι' σ' D' _ (T.get tdepth (T.set tdepth s.tm t av) t')
      rw [get_set, Nat.mod_eq_of_lt (show t' < 2 ^ tdepth from ht'), Nat.mod_eq_of_lt (show t < 2 ^ tdepth from ht)]
      by_cases e : t' = t
      · subst e; rw [if_pos rfl]; exact hrep
      · rw [if_neg e]; exact (hx.tm t' ht').mono hL
    · obtain ⟨h1, h2, k, h3, h4⟩ := hx.loop p hp
      refine ⟨h1, h2, k, ?_, h4⟩
      show T.get tdepth (T.set tdepth s.tm t av) markT = _
      rw [get_set, Nat.mod_eq_of_lt (show markT < 2 ^ tdepth by decide), Nat.mod_eq_of_lt (show t < 2 ^ tdepth from ht)]
      rw [if_neg (fun e : markT = t => hmk k (by rw [← e]; exact h3))]
      exact h3
  have boxs : ∀ (σ' : Store) (ι' : Nat → Option Nat) (D' : Nat → Prop) (nx' : Nat), SimS B w I ι' σ' D' → Later w I ι s.σ D w I ι' σ' D' → (∀ b, D' b → b < nx') → (∀ b, D' b → gh.D0 b ∨ gh.n0 ≤ b) →
      SimX P G B w0 I0 gh (fun b => b < nx') ⟨s.tm, σ', nx', s.nt⟩ a w I ι' D' := by
    intro σ' ι' D' nx' hS hL hnm hbs
    exact ⟨⟨hS, hx.core.below, hx.core.hB, hx.core.ext, hx.core.old⟩, hnm, hx.dfs, hx.size, hx.glob, fun t' ht' => (hx.tm t' ht').mono hL, fun v av h => (hx.ghost v av h).mono hL, hbs, hx.kept, hx.loop⟩
  have nmA : ∀ b, addD D s.nx b → b < s.nx + 1 := fun b hb => hb.elim (fun h => Nat.lt_succ_of_lt (hx.names b h)) (fun e => by subst e; exact Nat.lt_succ_self _)
  have bsA : ∀ b, addD D s.nx b → gh.D0 b ∨ gh.n0 ≤ b := fun b hb => hb.elim (hx.base b) (fun e => .inr (e ▸ hn0))
  have own0 : ∀ es, RepA w I (setι ι s.nx none) (upS s.σ s.nx (some (.arr es [] false))) (addD D s.nx) (.slice none 0 0) (.own s.nx 0 0) := fun es =>
    .own (.inr rfl) rfl fun o ho => by
      rw [find_upS, if_pos rfl] at ho
      cases ho
      exact ⟨none, 0, rfl, Nat.le_refl _, ⟨Nat.le_refl _, Nat.le_refl _⟩, .inl ⟨rfl, rfl⟩⟩
  cases hw with
  | nrm n0 live h =>
    obtain ⟨e, hl⟩ := hm n0 live h
    subst e
    exact hx.normN hl live
  | tmp t es ht h =>
    obtain ⟨hS, hL⟩ := hx.core.sims.empty (nm := s.nx) (o := .arr es [] false) hn rfl rfl
    refine ⟨_, _, sets t _ _ _ _ _ ht (fun k e => by rw [e] at h; cases h) hS hL ?_ nmA bsA⟩
    rw [inv_emp (hx.tm t ht) h]
    exact own0 es
  | tmpP t es ht h =>
    refine ⟨_, _, sets t _ _ _ _ _ ht (fun k e => by rw [e] at h; cases h) hx.core.sims .refl ?_ hx.names hx.base⟩
    rw [inv_emp (hx.tm t ht) h]
    exact .pv (rep_sl0 es)
  | box b i j es' es hb hr hj h =>
    obtain ⟨hS, hL⟩ := hx.core.sims.empty (nm := s.nx) (o := .arr es [] false) hn rfl rfl
    have hbn : b ≠ s.nx := fun e => hn (e ▸ hx.core.sims.dom _ _ hb)
    obtain ⟨hS2, hL2⟩ := hS.recell (b := b) (a1 := .own s.nx 0 0) (by rw [find_upS, if_neg hbn]; exact hb) hr hj (fun x hx' => by rw [inv_emp hx' h]; exact own0 es)
    exact ⟨_, _, boxs _ _ _ _ hS2 (hL.trans hL2) nmA bsA⟩
  | boxP b i j es' es hb hr hj h =>
    obtain ⟨hS2, hL2⟩ := hx.core.sims.recell (b := b) (a1 := .pv (.sl es [])) hb hr hj (fun x hx' => by rw [inv_emp hx' h]; exact .pv (rep_sl0 es))
    exact ⟨_, _, boxs _ _ _ _ hS2 hL2 hx.names hx.base⟩
end
end Go.Ab

/- The own code's weakest precondition is the model's. Under: nothing. -/
namespace Go.Ab
open Go.RowKit

section scope
variable {P : Program} {b : Frame} {a : Act} {k : List Item} {cs : List Frame} {w : World} {Q : Exit → Act → World → Prop} {F : Fence} {n : Nat}

theorem stepR_scope {c : Code} : Go.step P (lone (b.atR a (.code (.scope c) :: k)) cs w) = .next (lone (b.atR a (.code c :: .inScope c :: k)) cs w) :=
  step_lone_go (by simp [stepG, stepG.exec, Frame.atR])
theorem stepR_inScope {c : Code} : Go.step P (lone (b.atR a (.inScope c :: k)) cs w) = .next (lone (b.atR a k) cs w) :=
  step_lone_go (by simp [stepG, stepG.exec, Frame.atR])

theorem wpIn_scope_straight {c : Code} (h : c.wpIn F n P Q a w) (hg : ∀ l a w, ¬ Q (.goto l) a w) : (Code.scope c).wpIn F n P Q a w := by
  intro b k cs hro hb hr
  have h0 : (lone (b.atR a (.code (.scope c) :: k)) cs w).fenced P F := fenced_calm hb hr rfl
  obtain ⟨e, a₁, w₁, hq, harr⟩ := h b (.inScope c :: k) cs hro hb hr
  cases e with
  | normal => exact ⟨.normal, a₁, w₁, hq, .head h0 stepR_scope (StepsIn.trans harr (.one (fenced_calm hb hr rfl) stepR_inScope))⟩
  | exit id =>
    have hx : exitTo id (.inScope c :: k) = exitTo id k := by simp [exitTo]
    exact ⟨.exit id, a₁, w₁, hq, fun k' hk => .head h0 stepR_scope (harr.1 k' (by rw [hx]; exact hk)),
      fun hr' hk => let ⟨k₁, h1, h2⟩ := harr.2 hr' (by rw [hx]; exact hk); ⟨k₁, h1, .head h0 stepR_scope h2⟩⟩
  | goto l => exact (hg _ _ _ hq).elim
  | ret => exact ⟨_, a₁, w₁, hq, .of_steps (.one h0 stepR_scope) harr⟩
  | panic ch => exact ⟨_, a₁, w₁, hq, .of_steps (.one h0 stepR_scope) harr⟩
  | outgrown => exact ⟨_, a₁, w₁, hq, .of_steps (.one h0 stepR_scope) harr⟩

/-- At the head of a loop's round. -/
def LoopIn (F : Fence) (n : Nat) (P : Program) (c : Code) (Q : Exit → Act → World → Prop) (a : Act) (w : World) : Prop :=
  ∀ (b : Frame) (k : List Item) (cs : List Frame), b.roundOf = F.round → F.fn b.fn → F.room (cs.length + 1 + n) →
    ∃ e a' w', Q e a' w' ∧ ArrivesIn (Machine.fenced P F) P (lone (b.atR a (.code c :: .inLoop c :: k)) cs w) b k cs e a' w'

theorem LoopIn.wpIn {c : Code} (h : LoopIn F n P c Q a w) : (Code.loop c).wpIn F n P Q a w := fun b k cs hro hb hr =>
  let ⟨e, a', w', q, r⟩ := h b k cs hro hb hr; ⟨e, a', w', q, .of_steps (.one (fenced_calm hb hr rfl) stepR_loop) r⟩

theorem LoopIn.round {c : Code} (h : c.wpIn F n P (Exit.then (LoopIn F n P c Q) Q) a w) : LoopIn F n P c Q a w := by
  intro b k cs hro hb hr
  obtain ⟨e, a₁, w₁, hq, harr⟩ := h b (.inLoop c :: k) cs hro hb hr
  cases e with
  | normal =>
    obtain ⟨e₂, a₂, w₂, hq₂, harr₂⟩ := hq b k cs hro hb hr
    exact ⟨e₂, a₂, w₂, hq₂, .of_steps (StepsIn.trans harr (.one (fenced_calm hb hr rfl) stepR_inLoop)) harr₂⟩
  | exit id => exact ⟨_, a₁, w₁, hq, .pass (x := .inLoop c) rfl (fun _ _ => .inl (by simp)) harr⟩
  | goto l => exact ⟨_, a₁, w₁, hq, .pass (x := .inLoop c) rfl (fun _ _ => .inl (by simp)) harr⟩
  | ret => exact ⟨_, a₁, w₁, hq, .pass (x := .inLoop c) rfl (fun _ _ => .inl (by simp)) harr⟩
  | panic ch => exact ⟨_, a₁, w₁, hq, .pass (x := .inLoop c) rfl (fun _ _ => .inl (by simp)) harr⟩
  | outgrown => exact ⟨_, a₁, w₁, hq, .pass (x := .inLoop c) rfl (fun _ _ => .inl (by simp)) harr⟩
end scope

def chkC (P : Program) (nt : Nat) : Code → RC → Bool
  | .skip, .skip => true
  | .label _, .skip => true
  | .region _ ops d, .reg rs d' => (d == d' && chkReg P nt ops rs d) || (d && (!d' && chkCalm P nt ops rs))
  | .seq a b, .seq a' b' => chkC P nt a a' && chkC P nt b b'
  | .cond c a b, .cond c' a' b' => chkA c c' && (chkC P nt a a' && chkC P nt b b')
  | .block i b, .block j b' => i == j && chkC P nt b b'
  | .loop b, .loop _ b' => chkC P nt b b'
  | .rangeFunc g ps a b, .rng f ps' a' b' => chkA g f && (ps.toList == ps' && (ps'.all (fun t => decide (t < nt) && decide (t < 1024)) && (chkC P nt a a' && chkC P nt b b')))
  | .exit i, .exit j => i == j
  | .scope b, .scope b' => chkC P nt b b'
  | .ret, .ret => true
  | _, _ => false

section
variable {P : Program} {G : Gl} {B : Nat} {w0 : World} {I0 : Imm} {gh : Gh} {nt n : Nat} {ro : Option Nat}

/-- The parameters of a round. -/
def setPsT : List Nat → List AV → T → T
  | p :: ps, a :: as, tm => setPsT ps as (tm.set tdepth p a)
  | _, _, tm => tm

theorem setPs_eq {α : Sort _} : ∀ (ps : List Nat) (as : List AV) (tm : T) (K : T → α), setPs ps as tm K = K (setPsT ps as tm)
  | p :: ps, a :: as, tm, K => by simp only [setPs, setPsT, forceA_eq, setK_eq]; exact setPs_eq ps as _ K
  | [], _, _, _ => by simp [setPs, setPsT]
  | _ :: _, [], _, _ => by simp [setPs, setPsT]

theorem setPs_rep {w : World} {I : Imm} {ι : Nat → Option Nat} {σ : Store} {D : Nat → Prop} : ∀ (ps : List Nat) (xs : List Value) (as : List AV) (tmps : Array Value) (tm : T), xs.length = as.length → (∀ p ∈ ps, p < tmps.size ∧ p < 1024) →
    (∀ (j : Nat) (x : Value) (q : AV), xs[j]? = some x → as[j]? = some q → RepA w I ι σ D x q) → (∀ t, t < 1024 → RepA w I ι σ D (tmps.getD t undef) (tm.get tdepth t)) →
    ((ps.zip xs).foldl (fun tmps x => tmps.setIfInBounds x.1 x.2) tmps).size = tmps.size ∧ ∀ t, t < 1024 → RepA w I ι σ D (((ps.zip xs).foldl (fun tmps x => tmps.setIfInBounds x.1 x.2) tmps).getD t undef) ((setPsT ps as tm).get tdepth t)
  | p :: ps, x :: xs, a :: as, tmps, tm, hl, hp, ha, ht => by
    simp only [List.zip_cons_cons, List.foldl_cons, setPsT]
    obtain ⟨h1, h2⟩ := hp p (by simp)
    have := setPs_rep ps xs as (tmps.setIfInBounds p x) (tm.set tdepth p a) (by simpa using hl) (fun q hq => by simpa using hp q (by simp [hq])) (fun j y q hy hq => ha (j + 1) y q (by simpa using hy) (by simpa using hq)) (fun t htl => by
      rw [get_set]
      have e1 : t % 2 ^ tdepth = t := Nat.mod_eq_of_lt htl
      have e2 : p % 2 ^ tdepth = p := Nat.mod_eq_of_lt h2
      rw [e1, e2]
      by_cases e : t = p
      · subst e
        rw [if_pos rfl]
        have : (tmps.setIfInBounds t x).getD t undef = x := by simp [Array.getD, h1]
        rw [this]; exact ha 0 x a rfl rfl
      · rw [if_neg e]
        have : (tmps.setIfInBounds p x).getD t undef = tmps.getD t undef := by
          simp only [Array.getD_eq_getD_getElem?]
          rw [Array.getElem?_setIfInBounds_ne (fun h => e h.symm)]
        rw [this]; exact ht t htl)
    exact ⟨by rw [this.1]; simp, this.2⟩
  | [], _, _, tmps, tm, _, _, _, ht => by simp only [List.zip_nil_left, List.foldl_nil, setPsT]; exact ⟨trivial, ht⟩
  | _ :: _, [], [], tmps, tm, _, _, _, ht => by simp only [List.zip_nil_right, List.foldl_nil, setPsT]; exact ⟨trivial, ht⟩
  | _ :: _, [], _ :: _, _, _, hl, _, _, _ => by simp at hl
  | _ :: _, _ :: _, [], _, _, hl, _, _, _ => by simp at hl

variable (P G B w0 I0 gh nt) in
def SimT (s : St) (a : Act) (w : World) : Prop := s.nt = nt ∧ gh.n0 ≤ s.nx ∧ Sim P G B w0 I0 gh (fun b => b < s.nx) s a w

theorem SimT.weak {m : Option (Nat × List Nat)} {s s' : St} {a : Act} {w : World} (hm : ∀ n l, m = some (n, l) → n = gh.n0 ∧ ∀ v av, gh.gs v av → lowA n av) (h : SimT P G B w0 I0 gh nt s a w) (hw : Wk m s s') : SimT P G B w0 I0 gh nt s' a w := by
  obtain ⟨h1, h2, I, ι, D, hx⟩ := h
  obtain ⟨ι', D', hx'⟩ := hx.weak h2 hm hw
  refine ⟨?_, ?_, I, ι', D', hx'⟩
  · cases hw <;> exact h1
  · cases hw with
    | nrm n0 live h =>
      rw [(hm n0 live h).1]
      show gh.n0 ≤ (lowNs gh.n0 live s).length
      unfold lowNs
      simp
    | tmp => exact Nat.le_succ_of_le h2
    | tmpP => exact h2
    | box => exact Nat.le_succ_of_le h2
    | boxP => exact h2

variable (P G B w0 I0 gh nt) in
def postQ (Q : Ex → St → Prop) : Exit → Act → World → Prop
  | .normal, a, w => ∃ s, Q .normal s ∧ SimT P G B w0 I0 gh nt s a w
  | .exit i, a, w => ∃ s, Q (.exit i) s ∧ SimT P G B w0 I0 gh nt s a w
  | .ret, a, w => ∃ s, Q .ret s ∧ SimT P G B w0 I0 gh nt s a w
  | _, _, _ => False

theorem RunR.counts {Ok : Nat → List PV → Own → PV → Prop} {ins : Nat → RIns} {nmf : Nat → Nat} {dat : Nat → Dat} : ∀ (L : List Nat) {st sf : St}, RunR G Ok ins nmf dat L st sf → sf.nx = st.nx ∧ sf.nt = st.nt
  | [], _, _, h => ⟨h.nx, h.nt⟩
  | i :: L, st, sf, h => by
    have := RunR.counts L h.2
    simp only [afterD, after, putW_nx, putW_nt] at this
    exact this

theorem reg_sound {E : Env} {nrm : Bool} (hE : EnvOk P G E ro B w0 I0 gh) (hm : P.follows .mixedOrders = true) {id : Nat} {ops : Array Oper} {rs : List RIns} {draw : Bool} (hk : chkReg P nt ops rs draw = true) {Q : Ex → St → Prop} {s : St} {a : Act} {w : World}
    (h : aw G (OkC P G) (.reg rs draw) nrm E Q s) (hs : SimT P G B w0 I0 gh nt s a w) : (Code.region id ops draw).wpIn (Fw ro) n P (postQ P G B w0 I0 gh nt Q) a w := by
  obtain ⟨hnt, hn0, hsim⟩ := hs
  obtain ⟨tm, σ, nx, nt'⟩ := s
  simp only at hnt hn0
  subst hnt
  simp only [aw, forceN_eq] at h
  simp only [chkReg, Bool.and_eq_true, Bool.or_eq_true, Bool.not_eq_true'] at hk
  obtain ⟨hall, hdr⟩ := hk
  obtain ⟨hlen, hins⟩ := chkAll_spec hall
  have hsz : rs.length = ops.size := by rw [← hlen]; simp
  have hgetD : ∀ i r, rs[i]? = some r → rs.getD i default = r := fun i r h => by simp [List.getD, h]
  have hins' : ∀ i o, ops[i]? = some o → chkIns P ops nt' o (rs.getD i default) = true := by
    intro i o ho
    have hlt : i < rs.length := by rw [hsz]; exact (Array.getElem?_eq_some_iff.1 ho).1
    rw [hgetD i _ (List.getElem?_eq_getElem hlt)]
    exact hins i o _ (by simpa using ho) (List.getElem?_eq_getElem hlt)
  have hnew : ∀ b, b < nx → ∀ j, ¬ Names (nx + stride * j) b := fun b hb j hn => by have h2 := hn.1; omega
  cases draw with
  | false =>
    simp only at h
    refine wpIn_region ?_
    rw [List.range_eq_range', ← hsz]
    refine region_seq (nx0 := nx) (KK := Q .normal) hE rs hsz hins' hn0 (fun s' a' w' hq hnt' hnx' hs => ⟨s', hq, hnt', by omega, hs⟩) rs 0 _ a w rfl (by omega) rfl (by rw [hsz]; exact Nat.le_refl _) h ?_
    obtain ⟨I, ι, D, hx⟩ := hsim
    exact ⟨I, ι, D, hx.core, fun b hb => ⟨Nat.lt_of_lt_of_le (hx.names b hb) (Nat.le_add_right _ _), fun j _ => hnew b (hx.names b hb) j⟩, hx.dfs, hx.size, hx.glob, hx.tm, hx.ghost, hx.base, hx.kept, hx.loop⟩
  | true =>
    simp only at h
    obtain ⟨dat, sf, hrun, hq, hcomp⟩ := opsW_run rs nx true rs 0 [] _ _ rfl h
    obtain ⟨hfx, hft⟩ := hrun.counts
    simp only at hfx hft
    have hQ : ∀ a' w', Sim P G B w0 I0 gh (fun b => b < nx + stride * ops.size) sf a' w' → postQ P G B w0 I0 gh nt' Q .normal a' w' := fun a' w' hs =>
      ⟨sf, hq, hft, by rw [hfx]; omega, hs.weaken fun b hb => by rw [hfx, hsz]; exact hb⟩
    have hsim' : ∀ w', Sim P G B w0 I0 gh (fun b => b < nx) ⟨tm, σ, nx, nt'⟩ a w' → Sim P G B w0 I0 gh (NL nx (nx + stride * ops.size) (List.range' 0 ops.size)) ⟨tm, σ, nx + stride * ops.size, nt'⟩ a w' := by
      intro w' hs
      obtain ⟨I, ι, D, hx⟩ := hs
      exact ⟨I, ι, D, hx.core, fun b hb => ⟨Nat.lt_of_lt_of_le (hx.names b hb) (Nat.le_add_right _ _), fun j _ => hnew b (hx.names b hb) j⟩, hx.dfs, hx.size, hx.glob, hx.tm, hx.ghost, hx.base, hx.kept, hx.loop⟩
    rw [hsz] at hrun
    have hdr : apartAll [] rs = true ∧ chkPre rs 0 ops.toList rs = true := by simpa using hdr
    refine wpIn_region_any hm ?_
    have hpre : ∀ i o, ops[i]? = some o → (∀ x, (rs.getD i default).pre.testBit x = true → ∃ e ∈ o.after.toList, Region.binds .any e = true ∧ (e.on = x ∨ (rs.getD e.on default).pre.testBit x = true)) ∧ ∀ e ∈ o.after.toList, Region.binds .any e = true → e.on < i := by
      intro i o ho
      have hlt : i < rs.length := by rw [hsz]; exact (Array.getElem?_eq_some_iff.1 ho).1
      rw [hgetD i _ (List.getElem?_eq_getElem hlt)]
      have := chkPre_spec hdr.2 i o _ (by simpa using ho) (List.getElem?_eq_getElem hlt)
      simpa using this
    have hcomp := hcomp rfl
    refine region_any hins' hpre (fun i j hij hj => ?_) (fun i j hij hj hc => ?_) hn0 hQ ops.size _ (List.range' 0 ops.size) _ a _ (by simp) (by simp) List.pairwise_lt_range' (fun i => ?_) (fun j hj hl => ?_) rfl hrun (hsim' _ hsim.drew)
    · have h1 : i < rs.length := by omega
      have h2 : j < rs.length := by omega
      rw [hgetD i _ (List.getElem?_eq_getElem h1), hgetD j _ (List.getElem?_eq_getElem h2)]
      exact apartAll_spec rs [] hdr.1 i j _ _ hij (by simp) (by simp) (by simp)
    · have g : ∀ k, k < rs.length → (([] : List Rec) ++ (List.range' 0 rs.length).map fun i => (dat i).toRec (rs.getD i default))[k]? = some ((dat k).toRec (rs.getD k default)) := by
        intro k hk
        simp [hk]
      exact compat_spec _ [] hcomp i j _ _ hij (by simp) (g i (by omega)) (g j (by omega)) hc
    · rw [List.mem_range'_1]
      constructor
      · intro h; exact ⟨by omega, by simp [Array.getD, show i < ops.size by omega]⟩
      · intro h; exact ⟨Nat.zero_le _, by omega⟩
    · simp [hj] at hl

/-- A region that draws its order, taken in order. -/
theorem calm_sound {E : Env} {nrm : Bool} (hE : EnvOk P G E ro B w0 I0 gh) (hm : P.follows .mixedOrders = true) {id : Nat} {ops : Array Oper} {rs : List RIns} (hk : chkCalm P nt ops rs = true) {Q : Ex → St → Prop} {s : St} {a : Act} {w : World}
    (h : aw G (OkC P G) (.reg rs false) nrm E Q s) (hs : SimT P G B w0 I0 gh nt s a w) : (Code.region id ops true).wpIn (Fw ro) n P (postQ P G B w0 I0 gh nt Q) a w := by
  obtain ⟨hnt, hn0, hsim⟩ := hs
  obtain ⟨tm, σ, nx, nt'⟩ := s
  simp only at hnt hn0
  subst hnt
  simp only [aw, forceN_eq] at h
  simp only [chkCalm, chkReg, Bool.and_eq_true, Bool.or_eq_true, Bool.not_eq_true', Bool.true_eq_false, false_or] at hk
  obtain ⟨⟨hall, hdr⟩, hcalm⟩ := hk
  obtain ⟨hlen, hins⟩ := chkAll_spec hall
  have hsz : rs.length = ops.size := by rw [← hlen]; simp
  have hgetD : ∀ i r, rs[i]? = some r → rs.getD i default = r := fun i r h => by simp [List.getD, h]
  have hins' : ∀ i o, ops[i]? = some o → chkIns P ops nt' o (rs.getD i default) = true := by
    intro i o ho
    have hlt : i < rs.length := by rw [hsz]; exact (Array.getElem?_eq_some_iff.1 ho).1
    rw [hgetD i _ (List.getElem?_eq_getElem hlt)]
    exact hins i o _ (by simpa using ho) (List.getElem?_eq_getElem hlt)
  have hnew : ∀ b, b < nx → ∀ j, ¬ Names (nx + stride * j) b := fun b hb j hn => by have h2 := hn.1; omega
  refine wpIn_region_any hm ?_
  have hpre : ∀ i o, ops[i]? = some o → (∀ x, (rs.getD i default).pre.testBit x = true → ∃ e ∈ o.after.toList, Region.binds .any e = true ∧ (e.on = x ∨ (rs.getD e.on default).pre.testBit x = true)) ∧ ∀ e ∈ o.after.toList, Region.binds .any e = true → e.on < i := by
    intro i o ho
    have hlt : i < rs.length := by rw [hsz]; exact (Array.getElem?_eq_some_iff.1 ho).1
    rw [hgetD i _ (List.getElem?_eq_getElem hlt)]
    have := chkPre_spec hdr.2 i o _ (by simpa using ho) (List.getElem?_eq_getElem hlt)
    simpa using this
  have hrun := opsL_of (G := G) (nx0 := nx) rs rs 0 _ _ rfl h
  rw [hsz] at hrun
  refine region_calm (nx0 := nx) (KK := Q .normal) hE hins' hpre (fun i j hij hj => ?_) (fun i j hij hj => ?_) hn0 (fun s' a' w' hq hnt' hnx' hs => ⟨s', hq, hnt', by omega, hs⟩) ops.size _ (List.range' 0 ops.size) _ a _ (by simp) (by simp) List.pairwise_lt_range' (fun i => ?_) (fun j hj hl => ?_) rfl (by simp) hrun ?_
  · have h1 : i < rs.length := by omega
    have h2 : j < rs.length := by omega
    rw [hgetD i _ (List.getElem?_eq_getElem h1), hgetD j _ (List.getElem?_eq_getElem h2)]
    exact apartAll_spec rs [] hdr.1 i j _ _ hij (by simp) (by simp) (by simp)
  · have h1 : i < rs.length := by omega
    have h2 : j < rs.length := by omega
    rw [hgetD i _ (List.getElem?_eq_getElem h1), hgetD j _ (List.getElem?_eq_getElem h2)]
    exact calmAll_spec rs [] hcalm i j _ _ hij (by simp) (by simp) (by simp)
  · rw [List.mem_range'_1]
    constructor
    · intro h; exact ⟨by omega, by simp [Array.getD, show i < ops.size by omega]⟩
    · intro h; exact ⟨Nat.zero_le _, by omega⟩
  · simp [hj] at hl
  · obtain ⟨I, ι, D, hx⟩ := hsim.drew
    exact ⟨I, ι, D, hx.core, fun b hb => ⟨Nat.lt_of_lt_of_le (hx.names b hb) (Nat.le_add_right _ _), fun j _ => hnew b (hx.names b hb) j⟩, hx.dfs, hx.size, hx.glob, hx.tm, hx.ghost, hx.base, hx.kept, hx.loop⟩

/-- The theorem's statement, for one code. -/
def Sound (P : Program) (G : Gl) (B : Nat) (w0 : World) (I0 : Imm) (nt : Nat) (rc : RC) : Prop :=
  ∀ (code : Code), chkC P nt code rc = true → ∀ (n : Nat) (ro : Option Nat) (gh : Gh) (E : Env) (nrm : Bool), EnvOk P G E ro B w0 I0 gh → (nrm = true → gh = Gh.top) →
    ∀ (Q : Ex → St → Prop) (s : St) (a : Act) (w : World), aw G (OkC P G) rc nrm E Q s → SimT P G B w0 I0 gh nt s a w → code.wpIn (Fw ro) n P (postQ P G B w0 I0 gh nt Q) a w

/-- What a round of the loop does. -/
theorem yld_ok {E : Env} {p : LoopAt} {ps : List Nat} {x y : RC} {tm : T} (ihx : Sound P G B w0 I0 nt x) (ihy : Sound P G B w0 I0 nt y) (hinl : InlOk P G E.inl) (hkx : chkC P nt p.data.assign x = true) (hky : chkC P nt p.data.body y = true)
    (hps : p.data.params.toList = ps) (hall : ∀ t ∈ ps, t < nt ∧ t < 1024) (hsz : p.data.tmps.size = nt) {gs : Value → AV → Prop} (hgs : ∀ t, t < 1024 → gs (p.data.tmps.getD t undef) (tm.get tdepth t)) (hBl : B ≤ p.l) :
    YldOk P G p (fun args σ₁ nx₁ K => match args.length == ps.length with
          | true => setPs ps args tm fun tm' => aw G (OkC P G) x false ⟨E.inl, fun _ => none, none, none⟩ (Ex.then (aw G (OkC P G) y false ⟨E.inl, fun _ => none, none, none⟩ (endR K)) fun _ _ => False) ⟨tm', σ₁, nx₁, nt⟩
          | false => False) B w0 I0 gs := by
  intro args σ₁ nx₁ K hh gs' w₂ I₂ ι₂ D₂ vs hgs' hc hDn hgl hvl har hgr hrec
  split at hh
  · rename_i hlen
    rw [beq_iff_eq] at hlen
    rw [setPs_eq] at hh
    have hpsz : vs.size = p.data.params.size := by rw [hvl, hlen, ← hps]; simp
    refine ⟨hpsz, roundIn_of_wpIn trivial ?_⟩
    have hE1 : ∀ gh1 : Gh, EnvOk P G ⟨E.inl, fun _ => none, none, none⟩ (some p.l) B w0 I0 gh1 := fun gh1 => ⟨hinl, fun g it h => (by cases h), fun _ _ _ => rfl, fun b h e => (by cases e), fun n h => (by cases h)⟩
    have hfold : (p.data.params.zip vs).foldl (fun tmps (x : Tmp × Value) => tmps.setIfInBounds x.1 x.2) p.data.tmps = (ps.zip vs.toList).foldl (fun tmps x => tmps.setIfInBounds x.1 x.2) p.data.tmps := by
      rw [← Array.foldl_toList, Array.toList_zip, hps]
    obtain ⟨q1, q2⟩ := setPs_rep (w := w₂) (I := I₂) (ι := ι₂) (σ := σ₁) (D := D₂) ps vs.toList args p.data.tmps tm (by simpa using hvl) (fun t ht => by rw [hsz]; exact hall t ht) (fun j x q hx hq => har j x q (by simpa using hx) hq) (fun t ht => hgr _ _ (hgs' _ _ (hgs t ht)))
    have sim1 : SimT P G B w0 I0 ⟨gs', D₂, nx₁, fun r o => still o = true ∧ w₂.heap[r]? = some o, none⟩ nt ⟨setPsT ps args tm, σ₁, nx₁, nt⟩ { tmps := (p.data.params.zip vs).foldl (fun tmps (x : Tmp × Value) => tmps.setIfInBounds x.1 x.2) p.data.tmps, defers := [] } w₂ := by
      rw [hfold]
      exact ⟨rfl, Nat.le_refl _, I₂, ι₂, D₂, hc, hDn, ⟨[], rfl, List.nodup_nil, fun r h => by cases h⟩, q1.trans hsz, hgl, q2, hgr, fun b h => .inl h, fun r o h => h, fun _ h => by cases h⟩
    refine wpIn_mono (ihx _ hkx 0 (some p.l) _ _ false (hE1 _) (fun h => by cases h) _ _ _ _ hh sim1) fun e a₁ w₃ he => ?_
    cases e with
    | normal =>
      obtain ⟨s₁, hs₁, hnt1, hn1, I₃, ι₃, D₃, hx₃⟩ := he
      have hr₃ : w₃.heap[p.l]? = some (.loop (p.at 0)) := (hx₃.kept p.l _ ⟨rfl, hrec⟩).2
      have hlt : p.l < w₃.heap.size := (Array.getElem?_eq_some_iff.1 hr₃).1
      refine ⟨w₃.putObj p.l (.loop { p.at 0 with state := .busy }), run_beginRound hr₃ rfl, ?_⟩
      have ho : ∀ (w : World) (o' : Obj) (k : Nat), k ≠ p.l → (w.putObj p.l o').heap[k]? = w.heap[k]? := fun w o' k h => World.putObj_heap_other h
      have hmv : ∀ (w : World) (o' : Obj) (l : Loop), w.heap[p.l]? = some (.loop l) → ∀ (r : Nat) (o : Obj), w.heap[r]? = some o → still o = false → (w.putObj p.l o').heap[r]? = some o := fun w o' l hl r o hr hst => by
        rw [ho _ _ _ fun e => by subst e; rw [hl] at hr; cases hr; cases hst]; exact hr
      have hbl : ∀ (w : World) (o' : Obj), Below B w (w.putObj p.l o') := fun w o' => ⟨rfl, rfl, rfl, by simp, fun k hk => ho w o' k (by omega)⟩
      obtain ⟨hc₃, hL₃⟩ := hx₃.core.move (ι' := ι₃) (D' := D₃) (hmv w₃ (.loop { p.at 0 with state := .busy }) _ hr₃) (by simp) (hbl _ _) (fun _ _ => rfl) (fun _ h => h)
      have sim2 : SimT P G B w0 I0 ⟨gs', D₂, nx₁, fun r o => (still o = true ∧ w₂.heap[r]? = some o ∧ r ≠ p.l) ∨ (r = p.l ∧ o = .loop { p.at 0 with state := .busy }), none⟩ nt s₁ a₁ (w₃.putObj p.l (.loop { p.at 0 with state := .busy })) := by
        refine ⟨hnt1, hn1, I₃, ι₃, D₃, hc₃, hx₃.names, ?_, hx₃.size, hx₃.glob.mono hL₃.keeps, fun t ht => (hx₃.tm t ht).mono0 hL₃, fun v av hg => (hx₃.ghost v av hg).mono0 hL₃, hx₃.base, fun r o hk => ?_, fun _ h => by cases h⟩
        · obtain ⟨rs, h1, h2, h3⟩ := hx₃.dfs
          have hne : ∀ r ∈ rs, r ≠ p.l := fun r hr e => by have := (h3 r hr).2.2; rw [e, hr₃] at this; cases this
          refine ⟨rs, h1, h2, fun r hr => ⟨(h3 r hr).1, fun o hk => ?_, by rw [ho _ _ _ (hne r hr)]; exact (h3 r hr).2.2⟩⟩
          rcases hk with ⟨k1, k2, k3⟩ | ⟨k1, k2⟩
          · exact (h3 r hr).2.1 o ⟨k1, k2⟩
          · exact hne r hr k1
        · rcases hk with ⟨k1, k2, k3⟩ | ⟨k1, k2⟩
          · exact ⟨k1, by rw [ho _ _ _ k3]; exact (hx₃.kept r o ⟨k1, k2⟩).2⟩
          · subst k1; subst k2; exact ⟨rfl, World.putObj_heap_same hlt⟩
      have fin : ∀ (s₂ : St) (a₂ : Act) (w₄ : World) (jump : Option Code) (pd : Nat), SimT P G B w0 I0 ⟨gs', D₂, nx₁, fun r o => (still o = true ∧ w₂.heap[r]? = some o ∧ r ≠ p.l) ∨ (r = p.l ∧ o = .loop { p.at 0 with state := .busy }), none⟩ nt s₂ a₂ w₄ →
          p.at pd = { p.at 0 with state := if jump.isNone then .ready else .done, pending := jump } → K (.pv (.bool jump.isNone)) s₂.σ s₂.nx pd →
          ∃ v w', (Instr.endRound p.l jump).run P w₄ = .ok v w' ∧ YldPost P G B w0 I0 p gs' D₂ w₂ nx₁ K (.returned v) w' := by
        intro s₂ a₂ w₄ jump pd ⟨_, hn2, I₄, ι₄, D₄, hx₄⟩ hp hK
        have hr₄ : w₄.heap[p.l]? = some (.loop { p.at 0 with state := .busy }) := (hx₄.kept p.l _ (.inr ⟨rfl, rfl⟩)).2
        have hlt : p.l < w₄.heap.size := (Array.getElem?_eq_some_iff.1 hr₄).1
        refine ⟨_, _, run_endRound jump hr₄, ?_⟩
        obtain ⟨hc₄, hL₄⟩ := hx₄.core.move (ι' := ι₄) (D' := D₄) (hmv w₄ (.loop { p.at 0 with state := if jump.isNone then .ready else .done, pending := jump }) _ hr₄) (by simp) (hbl _ _) (fun _ _ => rfl) (fun _ h => h)
        exact ⟨_, _, _, pd, I₄, ι₄, D₄, hK, hc₄, hn2, fun b hb => (hx₄.base b hb).elim .inl fun h => .inr ⟨h, hx₄.names b hb⟩, .pv (.bool _), hx₄.glob.mono hL₄.keeps, fun x a hg => (hx₄.ghost x a hg).mono0 hL₄,
          fun r o hne hst hr => by rw [ho _ _ _ hne]; exact (hx₄.kept r o (.inl ⟨hst, hr, hne⟩)).2, by rw [hp]; exact World.putObj_heap_same hlt⟩
      refine wpIn_mono (ihy _ hky 0 (some p.l) _ _ false (hE1 _) (fun h => by cases h) _ _ _ _ hs₁ sim2) fun e a₂ w₄ he => ?_
      cases e with
      | normal => obtain ⟨s₂, hs₂, hsim⟩ := he; exact fin s₂ a₂ w₄ none 0 hsim rfl hs₂
      | ret => obtain ⟨s₂, hs₂, hsim⟩ := he; exact fin s₂ a₂ w₄ (some .ret) 1 hsim rfl hs₂
      | exit i => obtain ⟨s₂, hs₂, hsim⟩ := he; exact fin s₂ a₂ w₄ (some (.exit i)) (i + 2) hsim rfl hs₂
      | goto l => exact he.elim
      | panic c => exact he.elim
      | outgrown => exact he.elim
    | exit i => obtain ⟨s₁, hs₁, _⟩ := he; exact hs₁.elim
    | ret => obtain ⟨s₁, hs₁, _⟩ := he; exact hs₁.elim
    | goto l => exact he.elim
    | panic c => exact he.elim
    | outgrown => exact he.elim
  · exact hh.elim

theorem rng_sound {f : RA} {ps : List Nat} {x y : RC} (ihx : Sound P G B w0 I0 nt x) (ihy : Sound P G B w0 I0 nt y) {g : Operand} {prm : Array Tmp} {as bd : Code}
    (hk : (chkA g f && (prm.toList == ps && (ps.all (fun t => decide (t < nt) && decide (t < 1024)) && (chkC P nt as x && chkC P nt bd y)))) = true) {E : Env} {nrm : Bool} (hE : EnvOk P G E ro B w0 I0 gh) {Q : Ex → St → Prop} {s : St} {a : Act} {w : World}
    (h : aw G (OkC P G) (.rng f ps x y) nrm E Q s) (hs : SimT P G B w0 I0 gh nt s a w) : (Code.rangeFunc g prm as bd).wpIn (Fw ro) n P (postQ P G B w0 I0 gh nt Q) a w := by
  simp only [Bool.and_eq_true, beq_iff_eq, List.all_eq_true, decide_eq_true_eq] at hk
  obtain ⟨hf, hps, hall, hkx, hky⟩ := hk
  obtain ⟨tm, σ, nx, nt'⟩ := s
  simp only [aw] at h
  split at h
  · rename_i gi fa fb hca
    split at h
    · rename_i it hit
      have hro : ro = none := by
        cases ro with
        | none => rfl
        | some l => have := hE.none l rfl gi; rw [hit] at this; cases this
      subst hro
      obtain ⟨hnt, hn0, I, ι, D, hx⟩ := hs
      simp only at hnt hn0
      subst hnt
      rw [forceN_eq] at h
      refine wpIn_rangeFunc fun fn _ => ?_
      obtain ⟨xs, ys, hxf, hxl, hyl, hxr, hyr⟩ := callee_rep hca (hx.eval hf)
      let p : LoopAt := ⟨nx, w.heap.size + 1, { state := .ready, pending := none, fn, tmps := a.tmps, params := prm, assign := as, body := bd, defers := w.heap.size }⟩
      let w₁ := (w.alloc (.deferred (some []))).alloc (.loop p.data)
      have hw₁ : ∀ (r : Nat) (o : Obj), w.heap[r]? = some o → w₁.heap[r]? = some o := fun r o hr => by
        have hlt := (Array.getElem?_eq_some_iff.1 hr).1
        rw [Below.heap_alloc _ _ _ (by simp; omega), Below.heap_alloc _ _ _ hlt]; exact hr
      have hBw : B ≤ w.heap.size := Nat.le_trans hx.core.hB hx.core.below.size
      have hbl₁ : Below B w w₁ := ((Below.refl B w).alloc hBw _).alloc (by simp; omega) _
      have hrec₁ : w₁.heap[p.l]? = some (.loop (p.at 0)) := by
        have := World.alloc_heap_new (w.alloc (.deferred (some []))) (.loop p.data)
        rw [World.size_alloc] at this
        exact this
      have hdef₁ : w₁.heap[w.heap.size]? = some (.deferred (some [])) := by
        rw [Below.heap_alloc _ _ _ (by simp)]
        exact World.alloc_heap_new w (.deferred (some []))
      let ι' : Nat → Option Nat := fun b => if b = nx then some p.l else ι b
      let D' : Nat → Prop := fun b => D b ∨ b = nx
      have hDlt : ∀ b, D b → b < nx := hx.names
      obtain ⟨hc₁, hL₁⟩ := hx.core.move (w' := w₁) (ι' := ι') (D' := D') (fun r o hr _ => hw₁ r o hr) (by simp [w₁]; omega) hbl₁ (fun b hb => if_neg (by have := hDlt b hb; omega)) (fun b h => .inl h)
      let yv : Value := .func (.yield p.l) #[] #[]
      have hyl' : RepA w₁ I ι' σ D' yv (.yld nx) := .yld (.inr rfl) ⟨p.l, if_pos rfl, rfl⟩
      let gs : Value → AV → Prop := fun v av => gh.gs v av ∨ (∃ t, t < 1024 ∧ v = a.tmps.getD t undef ∧ av = tm.get tdepth t) ∨ (v = yv ∧ av = .yld p.b)
      have hsza : a.tmps.size = nt' := hx.size
      obtain ⟨henter, hcalls⟩ := hE.itr gi it hit nx _ _ _ _ _ h B w0 I0 gs p w₁ I ι' D' (xs ++ #[yv] ++ ys) hc₁ (fun b hb => by rcases hb with hb | rfl; have := hDlt b hb; omega; omega) (hx.glob.mono hL₁.keeps)
        (by simp only [Array.size_append, List.length_append, hxl, hyl]; rfl)
        (fun j z q hz hq => by
          by_cases h1 : j < fa.length
          · rw [List.getElem?_append_left (by simp; omega), List.getElem?_append_left h1] at hq
            rw [Array.getElem?_append_left (by simp; omega), Array.getElem?_append_left (by omega)] at hz
            exact (hxr j z q hz hq).mono0 hL₁
          · by_cases h2 : j = fa.length
            · rw [List.getElem?_append_left (by simp; omega), List.getElem?_append_right (by omega)] at hq
              rw [Array.getElem?_append_left (by simp; omega), Array.getElem?_append_right (by omega)] at hz
              have e1 : j - fa.length = 0 := by omega
              have e2 : j - xs.size = 0 := by omega
              rw [e1] at hq
              rw [e2] at hz
              simp at hq hz
              subst hq; subst hz
              exact hyl'
            · rw [List.getElem?_append_right (by simp; omega)] at hq
              rw [Array.getElem?_append_right (by simp; omega)] at hz
              simp only [List.length_append, List.length_cons, List.length_nil, Array.size_append] at hq hz
              have e : xs.size + #[yv].size = fa.length + (0 + 1) := by rw [hxl]; rfl
              rw [e] at hz
              exact (hyr _ z q hz hq).mono0 hL₁)
        (fun v av hv => by
          rcases hv with hv | ⟨t, ht, rfl, rfl⟩ | ⟨rfl, rfl⟩
          · exact (hx.ghost v av hv).mono0 hL₁
          · exact (hx.tm t ht).mono0 hL₁
          · exact hyl') rfl (.inr (.inr ⟨rfl, rfl⟩)) (by show B ≤ w.heap.size + 1; omega) hrec₁
        (yld_ok ihx ihy hE.inl hkx hky hps hall hsza (fun t ht => .inr (.inl ⟨t, ht, rfl, rfl⟩)) (by show B ≤ w.heap.size + 1; omega))
      refine ⟨w.heap.size + 1, [{ target := .collected w.heap.size, args := #[] }], w₁, { target := .fn (.func gi) ys, args := xs ++ #[yv] }, w₁, gi, xs ++ #[yv] ++ ys, w₁, run_enterLoop_outer fn a.tmps prm as bd, ?_, fun _ _ => trivial, henter w₁, fun h => by simp [Fence.wide] at h, ?_⟩
      · have e : Array.map a.eval #[Operand.const yv] = #[yv] := by simp [Act.eval]
        simp only [resolve, hxf, Deferred.ofValue, Sem.run_pure]
        show Result.ok ({ target := Target.fn (Fn.func gi) ys, args := xs ++ Array.map a.eval #[Operand.const yv] } : Deferred) w₁ = _
        rw [e]
      · have hc' : CallsIn (Fw none) 0 P gi (xs ++ #[yv] ++ ys) w₁ _ := hcalls
        refine CallsIn.mono (CallsIn.more hc' (Nat.zero_le _)) fun e w₃ he => ?_
        cases e with
        | returned v =>
          obtain ⟨k, σ', nx', I', ι'', D'', hK, hc₂, hle, hD2, hglob, hgs, hstill, hrec⟩ := he
          have hbusy : (p.at k).state ≠ .busy := by
            match k with
            | 0 => intro e; cases e
            | 1 => intro e; cases e
            | i + 2 => intro e; cases e
          have ho : ∀ (o' : Obj) (k : Nat), k ≠ p.l → (w₃.putObj p.l o').heap[k]? = w₃.heap[k]? := fun o' k h => World.putObj_heap_other h
          obtain ⟨hc₄, hL₄⟩ := hc₂.move (w' := w₃.putObj p.l (.loop { p.at k with state := .exhausted })) (ι' := ι'') (D' := D'') (fun r o hr hst => by rw [ho _ _ fun e => by subst e; rw [hrec] at hr; cases hr; cases hst]; exact hr) (by simp)
            ⟨rfl, rfl, rfl, by simp, fun k hk => ho _ k (fun e => by subst e; simp only [p] at hk; omega)⟩ (fun _ _ => rfl) (fun _ h => h)
          have hold : ∀ (r : Nat) (o : Obj), still o = true → w.heap[r]? = some o → (w₃.putObj p.l (.loop { p.at k with state := .exhausted })).heap[r]? = some o := fun r o hst hr => by
            have hlt := (Array.getElem?_eq_some_iff.1 hr).1
            have hne : r ≠ p.l := by simp only [p]; omega
            rw [ho _ _ hne]
            exact hstill r o hne hst (hw₁ r o hr)
          have hsim : SimT P G B w0 I0 gh nt' ⟨tm, σ', nx', nt'⟩ { a with defers := [{ target := .collected w.heap.size, args := #[] }] ++ a.defers } (w₃.putObj p.l (.loop { p.at k with state := .exhausted })) := by
            refine ⟨rfl, by simp only; omega, I', ι'', D'', hc₄, fun b hb => ?_, ?_, hsza, hglob.mono hL₄.keeps, fun t ht => (hgs _ _ (.inr (.inl ⟨t, ht, rfl, rfl⟩))).mono0 hL₄, fun v av hg => (hgs _ _ (.inl hg)).mono0 hL₄, fun b hb => ?_, fun r o hk => ⟨(hx.kept r o hk).1, hold r o (hx.kept r o hk).1 (hx.kept r o hk).2⟩, fun q hq => ?_⟩
            · rcases hD2 b hb with (h | h) | h
              · have := hDlt b h; simp only; omega
              · simp only; omega
              · exact h.2
            · obtain ⟨rs, h1, h2, h3⟩ := hx.dfs
              refine ⟨w.heap.size :: rs, by simp [h1], ?_, fun r hr => ?_⟩
              · rw [List.nodup_cons]
                exact ⟨fun hm => by have := (Array.getElem?_eq_some_iff.1 (h3 _ hm).2.2).1; omega, h2⟩
              · rcases List.mem_cons.1 hr with rfl | hr
                · refine ⟨hBw, fun o hk => ?_, ?_⟩
                  · have := (Array.getElem?_eq_some_iff.1 (hx.kept _ o hk).2).1; omega
                  · have hne : w.heap.size ≠ p.l := by simp only [p]; omega
                    rw [ho _ _ hne]
                    exact hstill _ _ hne rfl hdef₁
                · exact ⟨(h3 r hr).1, (h3 r hr).2.1, hold r _ rfl (h3 r hr).2.2⟩
            · rcases hD2 b hb with (h | h) | h
              · exact hx.base b h
              · exact .inr (by omega)
              · exact .inr (by omega)
            · obtain ⟨h1, h2, k', h3, h4⟩ := hx.loop q hq
              exact ⟨h1, h2, k', h3, hold _ _ rfl h4⟩
          refine ⟨(p.at k).pending, _, run_endLoop hrec hbusy, ?_⟩
          match k, hK, hsim with
          | 0, hK, hsim => exact ⟨_, hK, hsim⟩
          | 1, hK, hsim => exact wpIn_ret ⟨_, hK, hsim⟩
          | i + 2, hK, hsim => exact wpIn_exit ⟨_, hK, hsim⟩
        | panicked ch => exact he.elim
        | outgrown => exact he.elim
    · exact h.elim
  · exact h.elim

theorem aw_sound_all (hm : P.follows .mixedOrders = true) : ∀ (rc : RC), Sound P G B w0 I0 nt rc := by
  intro rc
  induction rc with
  | skip =>
    intro code hk n ro gh E nrm hE hgh Q s a w h hs
    cases code <;> simp only [chkC] at hk <;> try cases hk
    · exact wpIn_skip ⟨s, h, hs⟩
    · exact wpIn_label ⟨s, h, hs⟩
  | reg rs draw =>
    intro code hk n ro gh E nrm hE hgh Q s a w h hs
    cases code <;> simp only [chkC] at hk <;> try cases hk
    simp only [Bool.or_eq_true, Bool.and_eq_true, beq_iff_eq, Bool.not_eq_true'] at hk
    rcases hk with ⟨rfl, hk⟩ | ⟨rfl, rfl, hk⟩
    · exact reg_sound hE hm hk h hs
    · exact calm_sound hE hm hk h hs
  | seq x y ihx ihy =>
    intro code hk n ro gh E nrm hE hgh Q s a w h hs
    cases code <;> simp only [chkC] at hk <;> try cases hk
    simp only [Bool.and_eq_true] at hk
    refine wpIn_seq (wpIn_mono (ihx _ hk.1 n ro gh E nrm hE hgh _ s a w h hs) fun e a' w' he => ?_)
    cases e with
    | normal => obtain ⟨s', h', hs'⟩ := he; exact ihy _ hk.2 n ro gh E nrm hE hgh Q s' a' w' h' hs'
    | exit id => exact he
    | ret => exact he
    | goto l => exact he
    | panic c => exact he
    | outgrown => exact he
  | cond c x y ihx ihy =>
    intro code hk n ro gh E nrm hE hgh Q s a w h hs
    cases code <;> simp only [chkC] at hk <;> try cases hk
    simp only [Bool.and_eq_true] at hk
    obtain ⟨hc, hx, hy⟩ := hk
    simp only [aw, condW] at h
    split at h
    · rename_i b hb
      obtain ⟨I, ι, D, hxx⟩ := hs.2.2
      have hv := hxx.eval hc
      rw [hb] at hv
      have hv := inv_bool hv
      refine wpIn_cond hv ?_
      cases b
      · exact ihy _ hy n ro gh E nrm hE hgh Q s a w h hs
      · exact ihx _ hx n ro gh E nrm hE hgh Q s a w h hs
    · rename_i hb
      obtain ⟨I, ι, D, hxx⟩ := hs.2.2
      have hv := hxx.eval hc
      rw [hb] at hv
      generalize hX : a.eval _ = X at hv
      cases hv with
      | anyB b =>
        refine wpIn_cond hX ?_
        cases b
        · exact ihy _ hy n ro gh E nrm hE hgh Q s a w h.2 hs
        · exact ihx _ hx n ro gh E nrm hE hgh Q s a w h.1 hs
    · exact h.elim
  | block id b ih =>
    intro code hk n ro gh E nrm hE hgh Q s a w h hs
    cases code <;> simp only [chkC] at hk <;> try cases hk
    simp only [Bool.and_eq_true, beq_iff_eq] at hk
    obtain ⟨rfl, hk⟩ := hk
    rename_i id' c
    refine wpIn_block (wpIn_mono (ih _ hk n ro gh E nrm hE hgh _ s a w h hs) fun e a' w' he => ?_)
    cases e with
    | normal => exact he
    | exit i =>
      obtain ⟨s', h', hs'⟩ := he
      simp only [Ex.inBlock] at h'
      simp only [Exit.inBlock]
      by_cases e : i = id'
      · subst e; simp only [beq_self_eq_true] at h'; rw [if_pos rfl]; exact ⟨s', h', hs'⟩
      · have hb : (i == id') = false := by simpa using e
        rw [hb] at h'; rw [if_neg e]; exact ⟨s', h', hs'⟩
    | ret => exact he
    | goto l => exact he
    | panic c => exact he
    | outgrown => exact he
  | loop live b ih =>
    intro code hk n ro gh E nrm hE hgh Q s a w h hs
    cases code <;> simp only [chkC] at hk <;> try cases hk
    rename_i c
    refine LoopIn.wpIn ?_
    have := h (fun s => ∀ a w, SimT P G B w0 I0 gh nt s a w → LoopIn (Fw ro) n P c (postQ P G B w0 I0 gh nt Q) a w) fun s h' a w hs => by
      have hstep : ∃ s', aw G (OkC P G) b nrm E (Ex.then (fun s => ∀ a w, SimT P G B w0 I0 gh nt s a w → LoopIn (Fw ro) n P c (postQ P G B w0 I0 gh nt Q) a w) Q) s' ∧ SimT P G B w0 I0 gh nt s' a w := by
        cases hn : nrm with
        | true =>
          rw [hn] at h'
          simp only [normK_eq] at h'
          have this := hgh hn
          subst this
          exact ⟨_, h', hs.1, Nat.zero_le _, hs.2.2.norm live⟩
        | false =>
          rw [hn] at h'
          exact ⟨_, h', hs⟩
      obtain ⟨s', h', hs'⟩ := hstep
      refine LoopIn.round (wpIn_mono (ih _ hk n ro gh E nrm hE hgh _ s' a w h' hs') fun e a' w' he => ?_)
      cases e with
      | normal => obtain ⟨s', h', hs'⟩ := he; exact h' a' w' hs'
      | exit id => exact he
      | ret => exact he
      | goto l => exact he
      | panic c => exact he
      | outgrown => exact he
    refine this (fun s s' hw hX a w hs => hX a w (SimT.weak (fun n l hm => ?_) hs hw)) a w hs
    cases nrm with
    | true => cases hm
    | false =>
      cases hn0 : E.n0 with
      | none => simp only [hn0] at hm; cases hm
      | some k => simp only [hn0] at hm; cases hm; exact hE.low _ hn0
  | rng f ps x y ihx ihy =>
    intro code hk n ro gh E nrm hE hgh Q s a w h hs
    cases code <;> simp only [chkC] at hk <;> try cases hk
    exact rng_sound ihx ihy hk hE h hs
  | exit id =>
    intro code hk n ro gh E nrm hE hgh Q s a w h hs
    cases code <;> simp only [chkC] at hk <;> try cases hk
    simp only [beq_iff_eq] at hk
    subst hk
    exact wpIn_exit ⟨s, h, hs⟩
  | scope b ih =>
    intro code hk n ro gh E nrm hE hgh Q s a w h hs
    cases code <;> simp only [chkC] at hk <;> try cases hk
    exact wpIn_scope_straight (ih _ hk n ro gh E nrm hE hgh _ s a w h hs) fun l a w h => h
  | ret =>
    intro code hk n ro gh E nrm hE hgh Q s a w h hs
    cases code <;> simp only [chkC] at hk <;> try cases hk
    exact wpIn_ret ⟨s, h, hs⟩
theorem aw_sound {E : Env} {nrm : Bool} (hE : EnvOk P G E ro B w0 I0 gh) (hm : P.follows .mixedOrders = true) (hgh : nrm = true → gh = Gh.top) (rc : RC) (code : Code) (hk : chkC P nt code rc = true) (Q : Ex → St → Prop) (s : St) (a : Act) (w : World) (h : aw G (OkC P G) rc nrm E Q s) (hs : SimT P G B w0 I0 gh nt s a w) :
    code.wpIn (Fw ro) n P (postQ P G B w0 I0 gh nt Q) a w := aw_sound_all hm rc code hk n ro gh E nrm hE hgh Q s a w h hs
end
end Go.Ab

/- A frame's end takes the marks. Under: nothing. -/
namespace Go.Ab
open Go.RowKit
section
variable {P : Program} {G : Gl} {B : Nat} {w0 : World} {I0 : Imm} {gh : Gh} {N : Nat → Prop} {s : St} {a : Act} {w : World} {I : Imm} {ι : Nat → Option Nat} {σ : Store} {D : Nat → Prop}

theorem Core.put {r : Nat} {x : Option (List Deferred)} {o' : Obj} (hc : Core B w0 I0 w I ι σ D) (hr : w.heap[r]? = some (.deferred x)) (hB : B ≤ r) : Core B w0 I0 (w.putObj r o') I ι σ D ∧ Later0 w I ι σ D (w.putObj r o') I ι σ D := by
  have ho : ∀ k, k ≠ r → (w.putObj r o').heap[k]? = w.heap[k]? := fun k h => World.putObj_heap_other h
  refine hc.move (fun k o hk hst => ?_) (by simp) ⟨rfl, rfl, rfl, by simp, fun k hk => ho k (by omega)⟩ (fun _ _ => rfl) (fun _ h => h)
  rw [ho k fun e => by subst e; rw [hr] at hk; cases hk; cases hst]
  exact hk

theorem SimX.put_mark {r : Nat} {x : Option (List Deferred)} {o' : Obj} {ds : List Deferred} (h : SimX P G B w0 I0 gh N s a w I ι D) (hr : w.heap[r]? = some (.deferred x)) (hB : B ≤ r) (hd : Marks B gh.keep (w.putObj r o') ds) (hk : ∀ o, ¬ gh.keep r o) :
    SimX P G B w0 I0 gh N s { tmps := a.tmps, defers := ds } (w.putObj r o') I ι D := by
  obtain ⟨hc, hL⟩ := h.core.put (o' := o') hr hB
  refine ⟨hc, h.names, hd, h.size, h.glob.mono hL.keeps, fun t ht => (h.tm t ht).mono0 hL, fun v av hg => (h.ghost v av hg).mono0 hL, h.base, fun r' o hk' => ⟨(h.kept r' o hk').1, ?_⟩, fun p hp => ?_⟩
  · rw [World.putObj_heap_other (k := r') (r := r) fun e => hk o (by rw [← e]; exact hk')]; exact (h.kept r' o hk').2
  · obtain ⟨h1, h2, k, h3, h4⟩ := h.loop p hp
    exact ⟨h1, h2, k, h3, by rw [World.putObj_heap_other fun e => by rw [e, hr] at h4; cases h4]; exact h4⟩

/-- The iterator's frame bears the mark from now on. -/
theorem SimX.enter_loop {gs : Value → AV → Prop} {D0 : Nat → Prop} {n0 : Nat} {keep : Nat → Obj → Prop} {tm : T} {nx nt : Nat} {p : LoopAt} (h : SimX P G B w0 I0 ⟨gs, D0, n0, keep, none⟩ N ⟨tm, σ, nx, nt⟩ a w I ι D) (hnt : nt ≤ 1023) (hB : B ≤ p.l) (hr : w.heap[p.l]? = some (.loop (p.at 0))) :
    SimX P G B w0 I0 ⟨gs, D0, n0, keep, some p⟩ N ⟨tm.set tdepth markT (.mark 0), σ, nx, nt⟩ a w I ι D := by
  refine ⟨h.core, h.names, h.dfs, h.size, h.glob, fun t ht => ?_, h.ghost, h.base, h.kept, fun q hq => ?_⟩
  · simp only [get_set]
    split
    · exact .mark _ _
    · exact h.tm t ht
  · cases hq
    exact ⟨hnt, hB, 0, by simp only [get_set, if_true], hr⟩
end
end Go.Ab

/- A function's contract from its own code. Under: nothing. -/
namespace Go.Ab
open Go.RowKit

def chkRes (P : Program) : List ResultVar → List RRes → Bool
  | [], [] => true
  | .tmp t :: l, .tmp u :: m => t == u && decide (t < 1024) && chkRes P l m
  | .cell a t :: l, .cell b agg n :: m => a == b && decide (a < 1024) && chkSize P t n && chkAgg P t agg && chkRes P l m
  | _, _ => false

/-- The model's function is that of the own code. -/
def chkFn (P : Program) (g : Nat) (c : RFn) : Bool := match P.funcs[g]? with
  | some fn => (match fn.body with
    | some code => !(fn.name == "runtime.NumGoroutine") && fn.ntmps == c.ntmps && decide (c.nparams ≤ c.ntmps) && decide (c.nparams ≤ 1024) && chkRes P fn.results.toList c.res && chkC P c.ntmps code c.body
    | none => false)
  | none => false

def argsT : Nat → List AV → T → T
  | _, [], t => t
  | i, p :: l, t => argsT (i + 1) l (t.set tdepth i p)

theorem argsK_eq {α : Sort _} : ∀ (l : List PV) (i : Nat) (t : T) (K : T → α), argsK i l t K = K (argsT i (l.map .pv) t)
  | [], i, t, K => rfl
  | p :: l, i, t, K => by simp only [argsK, List.map_cons, argsT, setK_eq]; exact argsK_eq l _ _ K

theorem argsAK_eq {α : Sort _} : ∀ (l : List AV) (i : Nat) (t : T) (K : T → α), argsAK i l t K = K (argsT i l t)
  | [], i, t, K => rfl
  | p :: l, i, t, K => by simp only [argsAK, argsT, forceA_eq, setK_eq]; exact argsAK_eq l _ _ K

theorem get_argsT : ∀ (l : List AV) (i : Nat) (t : T) (n : Nat), n < 1024 → i + l.length ≤ 1024 → (argsT i l t).get tdepth n = if h : i ≤ n ∧ n < i + l.length then l[n - i]'(by omega) else t.get tdepth n
  | [], i, t, n, _, _ => by simp only [argsT, List.length_nil]; rw [dif_neg (by omega)]
  | p :: l, i, t, n, hn, hi => by
    simp only [argsT]
    simp only [List.length_cons] at hi
    rw [get_argsT l (i + 1) _ n hn (by omega)]
    by_cases h : i + 1 ≤ n ∧ n < i + 1 + l.length
    · rw [dif_pos h, dif_pos (by simp only [List.length_cons]; omega)]
      have e : n - i = (n - (i + 1)) + 1 := by omega
      simp only [e, List.getElem_cons_succ]
    · rw [dif_neg h, get_set]
      have e1 : n % 2 ^ tdepth = n := Nat.mod_eq_of_lt hn
      have e2 : i % 2 ^ tdepth = i := Nat.mod_eq_of_lt (by show i < 1024; omega)
      rw [e1, e2]
      by_cases h2 : n = i
      · subst h2
        rw [if_pos rfl, dif_pos (by simp only [List.length_cons]; omega)]
        simp
      · rw [if_neg h2, dif_neg (by simp only [List.length_cons]; omega)]

section
variable {P : Program} {G : Gl} {B : Nat} {w0 : World} {I0 : Imm} {w : World} {I : Imm} {ι : Nat → Option Nat} {σ : Store} {D : Nat → Prop}

theorem load_run (hs : SimS B w I ι σ D) {x : Value} {a : AV} {ev : RA → AV} {y : RA} {t n nm : Nat} {agg : Bool} {e : Eff} (hsz : chkSize P t n = true) (hg : chkAgg P t agg = true) (hev : ev y = a) (hx : RepA w I ι σ D x a)
    (h : step σ nm ev (.load agg n y) = some e) : ∃ ad v, x = .pointer (some ad) ∧ (loadVar t ad).run P w = .ok v w ∧ RepA w I ι σ D v e.v := by
  simp only [step, hev] at h
  split at h
  · rename_i b i j
    split at h
    · rename_i o ho
      split at h
      · rename_i row hrow
        split at h
        · rename_i hjn
          split at h
          · rename_i v hv
            cases h
            cases hx with
            | ptr hD hone hx =>
              obtain ⟨r, hr, rfl⟩ := hx o ho
              obtain ⟨r', c, T, fz, k1, k2, k3, k4, k5, k6⟩ := row_cells hs ho hrow
              rw [hr] at k1; cases k1
              obtain ⟨v', hv', hrep⟩ := run_loadVar (w := w) (o := i * o.es + j) (r := r) hsz hg hv (by simp; omega) (fun k q hq => by
                have hk : k < n := by have := (List.getElem?_eq_some_iff.1 hq).1; simp at this; omega
                rw [List.getElem?_take_of_lt hk, List.getElem?_drop] at hq
                obtain ⟨x', hx', hrep⟩ := k6 (j + k) q hq
                exact ⟨x', by rw [cell_of k2, Nat.add_assoc]; exact hx', hrep.2⟩)
              exact ⟨_, v', rfl, hv', hrep⟩
          · cases h
        · cases h
      · cases h
    · cases h
  · rename_i cs
    split at h
    · rename_i hn
      split at h
      · rename_i v hv
        cases h
        cases hx with
        | pv hx =>
          cases hx with
          | ref f ha hp hr =>
            rename_i a
            obtain ⟨ab, ao, as⟩ := a
            simp only at ha; subst ha
            obtain ⟨v', hv', hrep⟩ := run_loadVar (w := w) (I := I) (ι := ι) (σ := σ) (D := D) (o := ao) (r := ab) hsz hg hv (by simp; omega) (fun k q hq => by
              have hk : k < n := by have := (List.getElem?_eq_some_iff.1 hq).1; simp at this; omega
              simp only [List.getElem?_map, Option.map_eq_some_iff] at hq
              obtain ⟨q', hq', rfl⟩ := hq
              rw [List.getElem?_take_of_lt hk] at hq'
              exact ⟨f k, (hp k (by omega)).1, .pv (hr k q' hq')⟩)
            exact ⟨_, v', rfl, hv', hrep⟩
      · cases h
    · cases h
  · cases h

/-- The named results' values. -/
def resSem (tmps : Array Value) : ResultVar → Sem Value
  | .tmp t => pure (tmps.getD t undef)
  | .cell a t => do loadVar t (← asAddr (tmps.getD a undef))

theorem run_res {gh : Gh} {N : Nat → Prop} {s : St} {a : Act} (hx : SimX P G B w0 I0 gh N s a w I ι D) : ∀ (l : List ResultVar) (m : List RRes) (vs : List AV), chkRes P l m = true → resAs G s m = some vs →
    ∃ xs : List Value, (l.mapM (resSem a.tmps)).run P w = .ok xs w ∧ xs.length = vs.length ∧ ∀ (j : Nat) (x : Value) (q : AV), xs[j]? = some x → vs[j]? = some q → RepA w I ι s.σ D x q
  | [], [], vs, _, h => by simp only [resAs] at h; cases h; exact ⟨[], by simp, rfl, fun j x q hx => by simp at hx⟩
  | r :: l, c :: m, vs, hk, h => by
    simp only [resAs] at h
    split at h
    · rename_i v hv
      split at h
      · rename_i vs' hvs
        cases h
        have hk2 : chkRes P l m = true := by
          cases r <;> cases c <;> simp only [chkRes, Bool.and_eq_true] at hk
          · exact hk.2
          · cases hk
          · cases hk
          · exact hk.2
        obtain ⟨xs, h1, h2, h3⟩ := run_res hx l m vs' hk2 hvs
        have one : ∃ x, (resSem a.tmps r).run P w = .ok x w ∧ RepA w I ι s.σ D x v := by
          cases r with
          | tmp t =>
            cases c with
            | tmp u =>
              simp only [chkRes, Bool.and_eq_true, beq_iff_eq, decide_eq_true_eq] at hk
              obtain ⟨⟨rfl, hlt⟩, _⟩ := hk
              simp only [resA] at hv; cases hv
              exact ⟨_, rfl, hx.tm t hlt⟩
            | cell u g n => simp [chkRes] at hk
          | cell t ty =>
            cases c with
            | tmp u => simp [chkRes] at hk
            | cell u g n =>
              simp only [chkRes, Bool.and_eq_true, beq_iff_eq, decide_eq_true_eq] at hk
              obtain ⟨⟨⟨⟨rfl, hlt⟩, hsz⟩, hg⟩, _⟩ := hk
              simp only [resA] at hv
              split at hv
              · rename_i e he
                cases hv
                obtain ⟨ad, v, e1, e2, e3⟩ := load_run hx.core.sims hsz hg rfl (hx.tm t hlt) he
                exact ⟨v, by simp [resSem, e1, asAddr, e2], e3⟩
              · cases hv
        obtain ⟨x, g1, g2⟩ := one
        refine ⟨x :: xs, ?_, by simp [h2], fun j y q hy hq => ?_⟩
        · rw [List.mapM_cons]
          simp [g1, h1]
        · cases j with
          | zero => simp at hy hq; subst hy; subst hq; exact g2
          | succ j => simp at hy hq; exact h3 j y q hy hq
      · cases h
    · cases h
  | [], _ :: _, _, hk, _ => by simp [chkRes] at hk
  | _ :: _, [], _, hk, _ => by simp [chkRes] at hk

theorem results_run {gh : Gh} {N : Nat → Prop} {s : St} {a : Act} {fn : Func} {m : List RRes} {vs : List AV} (hx : SimX P G B w0 I0 gh N s a w I ι D) (hk : chkRes P fn.results.toList m = true) (h : resAs G s m = some vs) :
    ∃ v, (results fn a.tmps).run P w = .ok v w ∧ RepA w I ι s.σ D v (resPV vs) := by
  obtain ⟨xs, h1, h2, h3⟩ := run_res hx _ _ _ hk h
  have hr : (results fn a.tmps).run P w = .ok (if h : xs.toArray.size = 1 then xs.toArray[0] else .tuple xs.toArray) w := by
    have e : results fn a.tmps = (do let vs ← fn.results.mapM (resSem a.tmps); pure (if h : vs.size = 1 then vs[0] else .tuple vs)) := by
      unfold results
      congr 1
    rw [e, Array.mapM_eq_mapM_toList]
    simp [h1]
  refine ⟨_, hr, ?_⟩
  cases xs with
  | nil =>
    have : vs = [] := List.eq_nil_of_length_eq_zero h2.symm
    subst this
    exact .tup rfl fun j x q hx => by simp at hx
  | cons x xs =>
    cases xs with
    | nil =>
      cases vs with
      | nil => simp at h2
      | cons v vs =>
        have : vs = [] := List.eq_nil_of_length_eq_zero (by simpa using h2.symm)
        subst this
        exact h3 0 x v rfl rfl
    | cons y ys =>
      cases vs with
      | nil => simp at h2
      | cons v vs =>
        cases vs with
        | nil => simp at h2
        | cons v' vs =>
          have : ¬ (x :: y :: ys).toArray.size = 1 := by simp
          rw [dif_neg this]
          exact .tup (by simpa using h2) fun j z q hz hq => h3 j z q (by simpa using hz) hq
end


theorem leaves_of {P : Program} {G : Gl} {B : Nat} {w0 : World} {I0 : Imm} {gh : Gh} {N : Nat → Prop} {s : St} {I : Imm} {ι : Nat → Option Nat} {D : Nat → Prop} {F : Fence} {n : Nat} {fn : Func} {m : List RRes} {vs : List AV} {R : Ending → World → Prop} {tmps : Array Value}
    (hk : chkRes P fn.results.toList m = true) (h : resAs G s m = some vs) : ∀ (rs : List Nat) (ds : List Deferred) (w : World), ds.map (·.target) = rs.map Target.collected → rs.Nodup → (∀ r ∈ rs, B ≤ r ∧ (∀ o, ¬ gh.keep r o) ∧ w.heap[r]? = some (.deferred (some []))) →
      SimX P G B w0 I0 gh N s { tmps := tmps, defers := ds } w I ι D →
      (∀ w' v, SimX P G B w0 I0 gh N s { tmps := tmps, defers := [] } w' I ι D → RepA w' I ι s.σ D v (resPV vs) → R (.returned v) w') → LeavesInM F n P fn tmps R ds .returning w
  | [], [], w, _, _, _, hx, hR => by
    obtain ⟨v, hv, hrep⟩ := results_run hx hk h
    exact ⟨v, hv, hR w v hx hrep⟩
  | r :: rs, d :: ds, w, hm, hnd, hr, hx, hR => by
    simp only [List.map_cons, List.cons.injEq] at hm
    obtain ⟨hm1, hm2⟩ := hm
    rw [List.nodup_cons] at hnd
    obtain ⟨hB, hkp, hh⟩ := hr r (by simp)
    have hr' : ∀ r' ∈ rs, B ≤ r' ∧ (∀ o, ¬ gh.keep r' o) ∧ (w.putObj r (.deferred none)).heap[r']? = some (.deferred (some [])) := fun r' hr' => by
      have hne : r' ≠ r := fun e => hnd.1 (e ▸ hr')
      exact ⟨(hr r' (by simp [hr'])).1, (hr r' (by simp [hr'])).2.1, (World.putObj_heap_other hne).trans (hr r' (by simp [hr'])).2.2⟩
    refine ⟨by simp, .inl ⟨r, w.putObj r (.deferred none), hm1, run_takeDeferred hh, ?_⟩⟩
    exact leaves_of hk h rs ds _ hm2 hnd.2 hr' (hx.put_mark hh hB ⟨rs, hm2, hnd.2, hr'⟩ hkp) hR
  | [], _ :: _, _, hm, _, _, _, _ => by simp at hm
  | _ :: _, [], _, hm, _, _, _, _ => by simp at hm
end Go.Ab
