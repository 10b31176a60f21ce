/- The abstract layer, part 5: values, steps, their soundness. Under: nothing. -/
import Derived.Test.YtnecjlmfpnbooaaGreatDoorAbG4
import Derived.Control
import Derived.RangeFuncRecord
import Derived.ChangeSame
import Derived.IntWalk
/- The own code's weakest precondition is the model's. Under: nothing. -/
namespace Go.Ab
open Go.RowKit

section scope
variable {P : Program} {b : Frame} {a : Act} {k : List Item} {cs : List Frame} {w : World} {Q : Exit → Act → World → Prop} {F : Fence} {n : Nat}

theorem stepR_scope {c : Code} : Go.step P (lone (b.atR a (.code (.scope c) :: k)) cs w) = .next (lone (b.atR a (.code c :: .inScope c :: k)) cs w) :=
  step_lone_go (by simp [stepG, stepG.exec, Frame.atR])
theorem stepR_inScope {c : Code} : Go.step P (lone (b.atR a (.inScope c :: k)) cs w) = .next (lone (b.atR a k) cs w) :=
  step_lone_go (by simp [stepG, stepG.exec, Frame.atR])

theorem wpIn_scope_straight {c : Code} (h : c.wpIn F n P Q a w) (hg : ∀ l a w, ¬ Q (.goto l) a w) : (Code.scope c).wpIn F n P Q a w := by
  intro b k cs hro hb hr
  have h0 : (lone (b.atR a (.code (.scope c) :: k)) cs w).fenced P F := fenced_calm hb hr rfl
  obtain ⟨e, a₁, w₁, hq, harr⟩ := h b (.inScope c :: k) cs hro hb hr
  cases e with
  | normal => exact ⟨.normal, a₁, w₁, hq, .head h0 stepR_scope (StepsIn.trans harr (.one (fenced_calm hb hr rfl) stepR_inScope))⟩
  | exit id =>
    have hx : exitTo id (.inScope c :: k) = exitTo id k := by simp [exitTo]
    exact ⟨.exit id, a₁, w₁, hq, fun k' hk => .head h0 stepR_scope (harr.1 k' (by rw [hx]; exact hk)),
      fun hr' hk => let ⟨k₁, h1, h2⟩ := harr.2 hr' (by rw [hx]; exact hk); ⟨k₁, h1, .head h0 stepR_scope h2⟩⟩
  | goto l => exact (hg _ _ _ hq).elim
  | ret => exact ⟨_, a₁, w₁, hq, .of_steps (.one h0 stepR_scope) harr⟩
  | panic ch => exact ⟨_, a₁, w₁, hq, .of_steps (.one h0 stepR_scope) harr⟩
  | outgrown => exact ⟨_, a₁, w₁, hq, .of_steps (.one h0 stepR_scope) harr⟩

/-- At the head of a loop's round. -/
def LoopIn (F : Fence) (n : Nat) (P : Program) (c : Code) (Q : Exit → Act → World → Prop) (a : Act) (w : World) : Prop :=
  ∀ (b : Frame) (k : List Item) (cs : List Frame), b.roundOf = F.round → F.fn b.fn → F.room (cs.length + 1 + n) →
    ∃ e a' w', Q e a' w' ∧ ArrivesIn (Machine.fenced P F) P (lone (b.atR a (.code c :: .inLoop c :: k)) cs w) b k cs e a' w'

theorem LoopIn.wpIn {c : Code} (h : LoopIn F n P c Q a w) : (Code.loop c).wpIn F n P Q a w := fun b k cs hro hb hr =>
  let ⟨e, a', w', q, r⟩ := h b k cs hro hb hr; ⟨e, a', w', q, .of_steps (.one (fenced_calm hb hr rfl) stepR_loop) r⟩

theorem LoopIn.round {c : Code} (h : c.wpIn F n P (Exit.then (LoopIn F n P c Q) Q) a w) : LoopIn F n P c Q a w := by
  intro b k cs hro hb hr
  obtain ⟨e, a₁, w₁, hq, harr⟩ := h b (.inLoop c :: k) cs hro hb hr
  cases e with
  | normal =>
    obtain ⟨e₂, a₂, w₂, hq₂, harr₂⟩ := hq b k cs hro hb hr
    exact ⟨e₂, a₂, w₂, hq₂, .of_steps (StepsIn.trans harr (.one (fenced_calm hb hr rfl) stepR_inLoop)) harr₂⟩
  | exit id => exact ⟨_, a₁, w₁, hq, .pass (x := .inLoop c) rfl (fun _ _ => .inl (by simp)) harr⟩
  | goto l => exact ⟨_, a₁, w₁, hq, .pass (x := .inLoop c) rfl (fun _ _ => .inl (by simp)) harr⟩
  | ret => exact ⟨_, a₁, w₁, hq, .pass (x := .inLoop c) rfl (fun _ _ => .inl (by simp)) harr⟩
  | panic ch => exact ⟨_, a₁, w₁, hq, .pass (x := .inLoop c) rfl (fun _ _ => .inl (by simp)) harr⟩
  | outgrown => exact ⟨_, a₁, w₁, hq, .pass (x := .inLoop c) rfl (fun _ _ => .inl (by simp)) harr⟩
end scope

def chkC (P : Program) (nt : Nat) : Code → RC → Bool
  | .skip, .skip => true
  | .label _, .skip => true
  | .region _ ops d, .reg rs d' => (d == d' && chkReg P nt ops rs d) || (d && (!d' && chkCalm P nt ops rs))
  | .seq a b, .seq a' b' => chkC P nt a a' && chkC P nt b b'
  | .cond c a b, .cond c' a' b' => chkA c c' && (chkC P nt a a' && chkC P nt b b')
  | .block i b, .block j b' => i == j && chkC P nt b b'
  | .loop b, .loop _ b' => chkC P nt b b'
  | .rangeFunc g ps a b, .rng f ps' a' b' => chkA g f && (ps.toList == ps' && (ps'.all (fun t => decide (t < nt) && decide (t < 1024)) && (chkC P nt a a' && chkC P nt b b')))
  | .exit i, .exit j => i == j
  | .scope b, .scope b' => chkC P nt b b'
  | .ret, .ret => true
  | _, _ => false

section
variable {P : Program} {G : Gl} {B : Nat} {w0 : World} {I0 : Imm} {gh : Gh} {nt n : Nat} {ro : Option Nat}

/-- The parameters of a round. -/
def setPsT : List Nat → List AV → T → T
  | p :: ps, a :: as, tm => setPsT ps as (tm.set tdepth p a)
  | _, _, tm => tm

theorem setPs_eq {α : Sort _} : ∀ (ps : List Nat) (as : List AV) (tm : T) (K : T → α), setPs ps as tm K = K (setPsT ps as tm)
  | p :: ps, a :: as, tm, K => by simp only [setPs, setPsT, forceA_eq, setK_eq]; exact setPs_eq ps as _ K
  | [], _, _, _ => by simp [setPs, setPsT]
  | _ :: _, [], _, _ => by simp [setPs, setPsT]

theorem setPs_rep {w : World} {I : Imm} {ι : Nat → Option Nat} {σ : Store} {D : Nat → Prop} : ∀ (ps : List Nat) (xs : List Value) (as : List AV) (tmps : Array Value) (tm : T), xs.length = as.length → (∀ p ∈ ps, p < tmps.size ∧ p < 1024) →
    (∀ (j : Nat) (x : Value) (q : AV), xs[j]? = some x → as[j]? = some q → RepA w I ι σ D x q) → (∀ t, t < 1024 → RepA w I ι σ D (tmps.getD t undef) (tm.get tdepth t)) →
    ((ps.zip xs).foldl (fun tmps x => tmps.setIfInBounds x.1 x.2) tmps).size = tmps.size ∧ ∀ t, t < 1024 → RepA w I ι σ D (((ps.zip xs).foldl (fun tmps x => tmps.setIfInBounds x.1 x.2) tmps).getD t undef) ((setPsT ps as tm).get tdepth t)
  | p :: ps, x :: xs, a :: as, tmps, tm, hl, hp, ha, ht => by
    simp only [List.zip_cons_cons, List.foldl_cons, setPsT]
    obtain ⟨h1, h2⟩ := hp p (by simp)
    have := setPs_rep ps xs as (tmps.setIfInBounds p x) (tm.set tdepth p a) (by simpa using hl) (fun q hq => by simpa using hp q (by simp [hq])) (fun j y q hy hq => ha (j + 1) y q (by simpa using hy) (by simpa using hq)) (fun t htl => by
      rw [get_set]
      have e1 : t % 2 ^ tdepth = t := Nat.mod_eq_of_lt htl
      have e2 : p % 2 ^ tdepth = p := Nat.mod_eq_of_lt h2
      rw [e1, e2]
      by_cases e : t = p
      · subst e
        rw [if_pos rfl]
        have : (tmps.setIfInBounds t x).getD t undef = x := by simp [Array.getD, h1]
        rw [this]; exact ha 0 x a rfl rfl
      · rw [if_neg e]
        have : (tmps.setIfInBounds p x).getD t undef = tmps.getD t undef := by
          simp only [Array.getD_eq_getD_getElem?]
          rw [Array.getElem?_setIfInBounds_ne (fun h => e h.symm)]
        rw [this]; exact ht t htl)
    exact ⟨by rw [this.1]; simp, this.2⟩
  | [], _, _, tmps, tm, _, _, _, ht => by simp only [List.zip_nil_left, List.foldl_nil, setPsT]; exact ⟨trivial, ht⟩
  | _ :: _, [], [], tmps, tm, _, _, _, ht => by simp only [List.zip_nil_right, List.foldl_nil, setPsT]; exact ⟨trivial, ht⟩
  | _ :: _, [], _ :: _, _, _, hl, _, _, _ => by simp at hl
  | _ :: _, _ :: _, [], _, _, hl, _, _, _ => by simp at hl

variable (P G B w0 I0 gh nt) in
def SimT (s : St) (a : Act) (w : World) : Prop := s.nt = nt ∧ gh.n0 ≤ s.nx ∧ Sim P G B w0 I0 gh (fun b => b < s.nx) s a w

variable (P G B w0 I0 gh nt) in
def postQ (Q : Ex → St → Prop) : Exit → Act → World → Prop
  | .normal, a, w => ∃ s, Q .normal s ∧ SimT P G B w0 I0 gh nt s a w
  | .exit i, a, w => ∃ s, Q (.exit i) s ∧ SimT P G B w0 I0 gh nt s a w
  | .ret, a, w => ∃ s, Q .ret s ∧ SimT P G B w0 I0 gh nt s a w
  | _, _, _ => False

theorem RunR.counts {Ok : Nat → List PV → Own → PV → Prop} {ins : Nat → RIns} {nmf : Nat → Nat} {dat : Nat → Dat} : ∀ (L : List Nat) {st sf : St}, RunR G Ok ins nmf dat L st sf → sf.nx = st.nx ∧ sf.nt = st.nt
  | [], _, _, h => ⟨h.nx, h.nt⟩
  | i :: L, st, sf, h => by
    have := RunR.counts L h.2
    simp only [afterD, after, putW_nx, putW_nt] at this
    exact this

theorem reg_sound {E : Env} {nrm : Bool} (hE : EnvOk P G E ro B w0 I0 gh) (hm : P.follows .mixedOrders = true) {id : Nat} {ops : Array Oper} {rs : List RIns} {draw : Bool} (hk : chkReg P nt ops rs draw = true) {Q : Ex → St → Prop} {s : St} {a : Act} {w : World}
    (h : aw G (OkC P G) (.reg rs draw) nrm E Q s) (hs : SimT P G B w0 I0 gh nt s a w) : (Code.region id ops draw).wpIn (Fw ro) n P (postQ P G B w0 I0 gh nt Q) a w := by
  obtain ⟨hnt, hn0, hsim⟩ := hs
  obtain ⟨tm, σ, nx, nt'⟩ := s
  simp only at hnt hn0
  subst hnt
  simp only [aw, forceN_eq] at h
  simp only [chkReg, Bool.and_eq_true, Bool.or_eq_true, Bool.not_eq_true'] at hk
  obtain ⟨hall, hdr⟩ := hk
  obtain ⟨hlen, hins⟩ := chkAll_spec hall
  have hsz : rs.length = ops.size := by rw [← hlen]; simp
  have hgetD : ∀ i r, rs[i]? = some r → rs.getD i default = r := fun i r h => by simp [List.getD, h]
  have hins' : ∀ i o, ops[i]? = some o → chkIns P ops nt' o (rs.getD i default) = true := by
    intro i o ho
    have hlt : i < rs.length := by rw [hsz]; exact (Array.getElem?_eq_some_iff.1 ho).1
    rw [hgetD i _ (List.getElem?_eq_getElem hlt)]
    exact hins i o _ (by simpa using ho) (List.getElem?_eq_getElem hlt)
  have hnew : ∀ b, b < nx → ∀ j, ¬ Names (nx + stride * j) b := fun b hb j hn => by have h2 := hn.1; omega
  cases draw with
  | false =>
    simp only at h
    refine wpIn_region ?_
    rw [List.range_eq_range', ← hsz]
    refine region_seq (nx0 := nx) (KK := Q .normal) hE rs hsz hins' hn0 (fun s' a' w' hq hnt' hnx' hs => ⟨s', hq, hnt', by omega, hs⟩) rs 0 _ a w rfl (by omega) rfl (by rw [hsz]; exact Nat.le_refl _) h ?_
    obtain ⟨I, ι, D, hx⟩ := hsim
    exact ⟨I, ι, D, hx.core, fun b hb => ⟨Nat.lt_of_lt_of_le (hx.names b hb) (Nat.le_add_right _ _), fun j _ => hnew b (hx.names b hb) j⟩, hx.dfs, hx.size, hx.glob, hx.tm, hx.ghost, hx.base, hx.kept, hx.loop⟩
  | true =>
    simp only at h
    obtain ⟨dat, sf, hrun, hq, hcomp⟩ := opsW_run rs nx true rs 0 [] _ _ rfl h
    obtain ⟨hfx, hft⟩ := hrun.counts
    simp only at hfx hft
    have hQ : ∀ a' w', Sim P G B w0 I0 gh (fun b => b < nx + stride * ops.size) sf a' w' → postQ P G B w0 I0 gh nt' Q .normal a' w' := fun a' w' hs =>
      ⟨sf, hq, hft, by rw [hfx]; omega, hs.weaken fun b hb => by rw [hfx, hsz]; exact hb⟩
    have hsim' : ∀ w', Sim P G B w0 I0 gh (fun b => b < nx) ⟨tm, σ, nx, nt'⟩ a w' → Sim P G B w0 I0 gh (NL nx (nx + stride * ops.size) (List.range' 0 ops.size)) ⟨tm, σ, nx + stride * ops.size, nt'⟩ a w' := by
      intro w' hs
      obtain ⟨I, ι, D, hx⟩ := hs
      exact ⟨I, ι, D, hx.core, fun b hb => ⟨Nat.lt_of_lt_of_le (hx.names b hb) (Nat.le_add_right _ _), fun j _ => hnew b (hx.names b hb) j⟩, hx.dfs, hx.size, hx.glob, hx.tm, hx.ghost, hx.base, hx.kept, hx.loop⟩
    rw [hsz] at hrun
    have hdr : apartAll [] rs = true ∧ chkPre rs 0 ops.toList rs = true := by simpa using hdr
    refine wpIn_region_any hm ?_
    have hpre : ∀ i o, ops[i]? = some o → (∀ x, (rs.getD i default).pre.testBit x = true → ∃ e ∈ o.after.toList, Region.binds .any e = true ∧ (e.on = x ∨ (rs.getD e.on default).pre.testBit x = true)) ∧ ∀ e ∈ o.after.toList, Region.binds .any e = true → e.on < i := by
      intro i o ho
      have hlt : i < rs.length := by rw [hsz]; exact (Array.getElem?_eq_some_iff.1 ho).1
      rw [hgetD i _ (List.getElem?_eq_getElem hlt)]
      have := chkPre_spec hdr.2 i o _ (by simpa using ho) (List.getElem?_eq_getElem hlt)
      simpa using this
    have hcomp := hcomp rfl
    refine region_any hins' hpre (fun i j hij hj => ?_) (fun i j hij hj hc => ?_) hn0 hQ ops.size _ (List.range' 0 ops.size) _ a _ (by simp) (by simp) List.pairwise_lt_range' (fun i => ?_) (fun j hj hl => ?_) rfl hrun (hsim' _ hsim.drew)
    · have h1 : i < rs.length := by omega
      have h2 : j < rs.length := by omega
      rw [hgetD i _ (List.getElem?_eq_getElem h1), hgetD j _ (List.getElem?_eq_getElem h2)]
      exact apartAll_spec rs [] hdr.1 i j _ _ hij (by simp) (by simp) (by simp)
    · have g : ∀ k, k < rs.length → (([] : List Rec) ++ (List.range' 0 rs.length).map fun i => (dat i).toRec (rs.getD i default))[k]? = some ((dat k).toRec (rs.getD k default)) := by
        intro k hk
        simp [hk]
      exact compat_spec _ [] hcomp i j _ _ hij (by simp) (g i (by omega)) (g j (by omega)) hc
    · rw [List.mem_range'_1]
      constructor
      · intro h; exact ⟨by omega, by simp [Array.getD, show i < ops.size by omega]⟩
      · intro h; exact ⟨Nat.zero_le _, by omega⟩
    · simp [hj] at hl

/-- A region that draws its order, taken in order. -/
theorem calm_sound {E : Env} {nrm : Bool} (hE : EnvOk P G E ro B w0 I0 gh) (hm : P.follows .mixedOrders = true) {id : Nat} {ops : Array Oper} {rs : List RIns} (hk : chkCalm P nt ops rs = true) {Q : Ex → St → Prop} {s : St} {a : Act} {w : World}
    (h : aw G (OkC P G) (.reg rs false) nrm E Q s) (hs : SimT P G B w0 I0 gh nt s a w) : (Code.region id ops true).wpIn (Fw ro) n P (postQ P G B w0 I0 gh nt Q) a w := by
  obtain ⟨hnt, hn0, hsim⟩ := hs
  obtain ⟨tm, σ, nx, nt'⟩ := s
  simp only at hnt hn0
  subst hnt
  simp only [aw, forceN_eq] at h
  simp only [chkCalm, chkReg, Bool.and_eq_true, Bool.or_eq_true, Bool.not_eq_true', Bool.true_eq_false, false_or] at hk
  obtain ⟨⟨hall, hdr⟩, hcalm⟩ := hk
  obtain ⟨hlen, hins⟩ := chkAll_spec hall
  have hsz : rs.length = ops.size := by rw [← hlen]; simp
  have hgetD : ∀ i r, rs[i]? = some r → rs.getD i default = r := fun i r h => by simp [List.getD, h]
  have hins' : ∀ i o, ops[i]? = some o → chkIns P ops nt' o (rs.getD i default) = true := by
    intro i o ho
    have hlt : i < rs.length := by rw [hsz]; exact (Array.getElem?_eq_some_iff.1 ho).1
    rw [hgetD i _ (List.getElem?_eq_getElem hlt)]
    exact hins i o _ (by simpa using ho) (List.getElem?_eq_getElem hlt)
  have hnew : ∀ b, b < nx → ∀ j, ¬ Names (nx + stride * j) b := fun b hb j hn => by have h2 := hn.1; omega
  refine wpIn_region_any hm ?_
  have hpre : ∀ i o, ops[i]? = some o → (∀ x, (rs.getD i default).pre.testBit x = true → ∃ e ∈ o.after.toList, Region.binds .any e = true ∧ (e.on = x ∨ (rs.getD e.on default).pre.testBit x = true)) ∧ ∀ e ∈ o.after.toList, Region.binds .any e = true → e.on < i := by
    intro i o ho
    have hlt : i < rs.length := by rw [hsz]; exact (Array.getElem?_eq_some_iff.1 ho).1
    rw [hgetD i _ (List.getElem?_eq_getElem hlt)]
    have := chkPre_spec hdr.2 i o _ (by simpa using ho) (List.getElem?_eq_getElem hlt)
    simpa using this
  have hrun := opsL_of (G := G) (nx0 := nx) rs rs 0 _ _ rfl h
  rw [hsz] at hrun
  refine region_calm (nx0 := nx) (KK := Q .normal) hE hins' hpre (fun i j hij hj => ?_) (fun i j hij hj => ?_) hn0 (fun s' a' w' hq hnt' hnx' hs => ⟨s', hq, hnt', by omega, hs⟩) ops.size _ (List.range' 0 ops.size) _ a _ (by simp) (by simp) List.pairwise_lt_range' (fun i => ?_) (fun j hj hl => ?_) rfl (by simp) hrun ?_
  · have h1 : i < rs.length := by omega
    have h2 : j < rs.length := by omega
    rw [hgetD i _ (List.getElem?_eq_getElem h1), hgetD j _ (List.getElem?_eq_getElem h2)]
    exact apartAll_spec rs [] hdr.1 i j _ _ hij (by simp) (by simp) (by simp)
  · have h1 : i < rs.length := by omega
    have h2 : j < rs.length := by omega
    rw [hgetD i _ (List.getElem?_eq_getElem h1), hgetD j _ (List.getElem?_eq_getElem h2)]
    exact calmAll_spec rs [] hcalm i j _ _ hij (by simp) (by simp) (by simp)
  · rw [List.mem_range'_1]
    constructor
    · intro h; exact ⟨by omega, by simp [Array.getD, show i < ops.size by omega]⟩
    · intro h; exact ⟨Nat.zero_le _, by omega⟩
  · simp [hj] at hl
  · obtain ⟨I, ι, D, hx⟩ := hsim.drew
    exact ⟨I, ι, D, hx.core, fun b hb => ⟨Nat.lt_of_lt_of_le (hx.names b hb) (Nat.le_add_right _ _), fun j _ => hnew b (hx.names b hb) j⟩, hx.dfs, hx.size, hx.glob, hx.tm, hx.ghost, hx.base, hx.kept, hx.loop⟩

/-- The theorem's statement, for one code. -/
def Sound (P : Program) (G : Gl) (B : Nat) (w0 : World) (I0 : Imm) (nt : Nat) (rc : RC) : Prop :=
  ∀ (code : Code), chkC P nt code rc = true → ∀ (n : Nat) (ro : Option Nat) (gh : Gh) (E : Env) (nrm : Bool), EnvOk P G E ro B w0 I0 gh → (nrm = true → gh = Gh.top) →
    ∀ (Q : Ex → St → Prop) (s : St) (a : Act) (w : World), aw G (OkC P G) rc nrm E Q s → SimT P G B w0 I0 gh nt s a w → code.wpIn (Fw ro) n P (postQ P G B w0 I0 gh nt Q) a w

/-- What a round of the loop does. -/
theorem yld_ok {E : Env} {p : LoopAt} {ps : List Nat} {x y : RC} {tm : T} (ihx : Sound P G B w0 I0 nt x) (ihy : Sound P G B w0 I0 nt y) (hinl : InlOk P G E.inl) (hkx : chkC P nt p.data.assign x = true) (hky : chkC P nt p.data.body y = true)
    (hps : p.data.params.toList = ps) (hall : ∀ t ∈ ps, t < nt ∧ t < 1024) (hsz : p.data.tmps.size = nt) {gs : Value → AV → Prop} (hgs : ∀ t, t < 1024 → gs (p.data.tmps.getD t undef) (tm.get tdepth t)) (hBl : B ≤ p.l) :
    YldOk P G p (fun args σ₁ nx₁ K => match args.length == ps.length with
          | true => setPs ps args tm fun tm' => aw G (OkC P G) x false ⟨E.inl, fun _ => none, none⟩ (Ex.then (aw G (OkC P G) y false ⟨E.inl, fun _ => none, none⟩ (endR K)) fun _ _ => False) ⟨tm', σ₁, nx₁, nt⟩
          | false => False) B w0 I0 gs := by
  intro args σ₁ nx₁ K hh gs' w₂ I₂ ι₂ D₂ vs hgs' hc hDn hgl hvl har hgr hrec
  split at hh
  · rename_i hlen
    rw [beq_iff_eq] at hlen
    rw [setPs_eq] at hh
    have hpsz : vs.size = p.data.params.size := by rw [hvl, hlen, ← hps]; simp
    refine ⟨hpsz, roundIn_of_wpIn trivial ?_⟩
    have hE1 : ∀ gh1 : Gh, EnvOk P G ⟨E.inl, fun _ => none, none⟩ (some p.l) B w0 I0 gh1 := fun gh1 => ⟨hinl, fun g it h => (by cases h), fun _ _ _ => rfl, fun b h e => by cases e⟩
    have hfold : (p.data.params.zip vs).foldl (fun tmps (x : Tmp × Value) => tmps.setIfInBounds x.1 x.2) p.data.tmps = (ps.zip vs.toList).foldl (fun tmps x => tmps.setIfInBounds x.1 x.2) p.data.tmps := by
      rw [← Array.foldl_toList, Array.toList_zip, hps]
    obtain ⟨q1, q2⟩ := setPs_rep (w := w₂) (I := I₂) (ι := ι₂) (σ := σ₁) (D := D₂) ps vs.toList args p.data.tmps tm (by simpa using hvl) (fun t ht => by rw [hsz]; exact hall t ht) (fun j x q hx hq => har j x q (by simpa using hx) hq) (fun t ht => hgr _ _ (hgs' _ _ (hgs t ht)))
    have sim1 : SimT P G B w0 I0 ⟨gs', D₂, nx₁, fun r o => still o = true ∧ w₂.heap[r]? = some o, none⟩ nt ⟨setPsT ps args tm, σ₁, nx₁, nt⟩ { tmps := (p.data.params.zip vs).foldl (fun tmps (x : Tmp × Value) => tmps.setIfInBounds x.1 x.2) p.data.tmps, defers := [] } w₂ := by
      rw [hfold]
      exact ⟨rfl, Nat.le_refl _, I₂, ι₂, D₂, hc, hDn, ⟨[], rfl, List.nodup_nil, fun r h => by cases h⟩, q1.trans hsz, hgl, q2, hgr, fun b h => .inl h, fun r o h => h, fun _ h => by cases h⟩
    refine wpIn_mono (ihx _ hkx 0 (some p.l) _ _ false (hE1 _) (fun h => by cases h) _ _ _ _ hh sim1) fun e a₁ w₃ he => ?_
    cases e with
    | normal =>
      obtain ⟨s₁, hs₁, hnt1, hn1, I₃, ι₃, D₃, hx₃⟩ := he
      have hr₃ : w₃.heap[p.l]? = some (.loop (p.at 0)) := (hx₃.kept p.l _ ⟨rfl, hrec⟩).2
      have hlt : p.l < w₃.heap.size := (Array.getElem?_eq_some_iff.1 hr₃).1
      refine ⟨w₃.putObj p.l (.loop { p.at 0 with state := .busy }), run_beginRound hr₃ rfl, ?_⟩
      have ho : ∀ (w : World) (o' : Obj) (k : Nat), k ≠ p.l → (w.putObj p.l o').heap[k]? = w.heap[k]? := fun w o' k h => World.putObj_heap_other h
      have hmv : ∀ (w : World) (o' : Obj) (l : Loop), w.heap[p.l]? = some (.loop l) → ∀ (r : Nat) (o : Obj), w.heap[r]? = some o → still o = false → (w.putObj p.l o').heap[r]? = some o := fun w o' l hl r o hr hst => by
        rw [ho _ _ _ fun e => by subst e; rw [hl] at hr; cases hr; cases hst]; exact hr
      have hbl : ∀ (w : World) (o' : Obj), Below B w (w.putObj p.l o') := fun w o' => ⟨rfl, rfl, rfl, by simp, fun k hk => ho w o' k (by omega)⟩
      obtain ⟨hc₃, hL₃⟩ := hx₃.core.move (ι' := ι₃) (D' := D₃) (hmv w₃ (.loop { p.at 0 with state := .busy }) _ hr₃) (by simp) (hbl _ _) (fun _ _ => rfl) (fun _ h => h)
      have sim2 : SimT P G B w0 I0 ⟨gs', D₂, nx₁, fun r o => (still o = true ∧ w₂.heap[r]? = some o ∧ r ≠ p.l) ∨ (r = p.l ∧ o = .loop { p.at 0 with state := .busy }), none⟩ nt s₁ a₁ (w₃.putObj p.l (.loop { p.at 0 with state := .busy })) := by
        refine ⟨hnt1, hn1, I₃, ι₃, D₃, hc₃, hx₃.names, ?_, hx₃.size, hx₃.glob.mono hL₃.keeps, fun t ht => (hx₃.tm t ht).mono0 hL₃, fun v av hg => (hx₃.ghost v av hg).mono0 hL₃, hx₃.base, fun r o hk => ?_, fun _ h => by cases h⟩
        · obtain ⟨rs, h1, h2, h3⟩ := hx₃.dfs
          have hne : ∀ r ∈ rs, r ≠ p.l := fun r hr e => by have := (h3 r hr).2.2; rw [e, hr₃] at this; cases this
          refine ⟨rs, h1, h2, fun r hr => ⟨(h3 r hr).1, fun o hk => ?_, by rw [ho _ _ _ (hne r hr)]; exact (h3 r hr).2.2⟩⟩
          rcases hk with ⟨k1, k2, k3⟩ | ⟨k1, k2⟩
          · exact (h3 r hr).2.1 o ⟨k1, k2⟩
          · exact hne r hr k1
        · rcases hk with ⟨k1, k2, k3⟩ | ⟨k1, k2⟩
          · exact ⟨k1, by rw [ho _ _ _ k3]; exact (hx₃.kept r o ⟨k1, k2⟩).2⟩
          · subst k1; subst k2; exact ⟨rfl, World.putObj_heap_same hlt⟩
      have fin : ∀ (s₂ : St) (a₂ : Act) (w₄ : World) (jump : Option Code) (pd : Nat), SimT P G B w0 I0 ⟨gs', D₂, nx₁, fun r o => (still o = true ∧ w₂.heap[r]? = some o ∧ r ≠ p.l) ∨ (r = p.l ∧ o = .loop { p.at 0 with state := .busy }), none⟩ nt s₂ a₂ w₄ →
          p.at pd = { p.at 0 with state := if jump.isNone then .ready else .done, pending := jump } → K (.pv (.bool jump.isNone)) s₂.σ s₂.nx pd →
          ∃ v w', (Instr.endRound p.l jump).run P w₄ = .ok v w' ∧ YldPost P G B w0 I0 p gs' D₂ w₂ nx₁ K (.returned v) w' := by
        intro s₂ a₂ w₄ jump pd ⟨_, hn2, I₄, ι₄, D₄, hx₄⟩ hp hK
        have hr₄ : w₄.heap[p.l]? = some (.loop { p.at 0 with state := .busy }) := (hx₄.kept p.l _ (.inr ⟨rfl, rfl⟩)).2
        have hlt : p.l < w₄.heap.size := (Array.getElem?_eq_some_iff.1 hr₄).1
        refine ⟨_, _, run_endRound jump hr₄, ?_⟩
        obtain ⟨hc₄, hL₄⟩ := hx₄.core.move (ι' := ι₄) (D' := D₄) (hmv w₄ (.loop { p.at 0 with state := if jump.isNone then .ready else .done, pending := jump }) _ hr₄) (by simp) (hbl _ _) (fun _ _ => rfl) (fun _ h => h)
        exact ⟨_, _, _, pd, I₄, ι₄, D₄, hK, hc₄, hn2, fun b hb => (hx₄.base b hb).elim .inl fun h => .inr ⟨h, hx₄.names b hb⟩, .pv (.bool _), hx₄.glob.mono hL₄.keeps, fun x a hg => (hx₄.ghost x a hg).mono0 hL₄,
          fun r o hne hst hr => by rw [ho _ _ _ hne]; exact (hx₄.kept r o (.inl ⟨hst, hr, hne⟩)).2, by rw [hp]; exact World.putObj_heap_same hlt⟩
      refine wpIn_mono (ihy _ hky 0 (some p.l) _ _ false (hE1 _) (fun h => by cases h) _ _ _ _ hs₁ sim2) fun e a₂ w₄ he => ?_
      cases e with
      | normal => obtain ⟨s₂, hs₂, hsim⟩ := he; exact fin s₂ a₂ w₄ none 0 hsim rfl hs₂
      | ret => obtain ⟨s₂, hs₂, hsim⟩ := he; exact fin s₂ a₂ w₄ (some .ret) 1 hsim rfl hs₂
      | exit i => obtain ⟨s₂, hs₂, hsim⟩ := he; exact fin s₂ a₂ w₄ (some (.exit i)) (i + 2) hsim rfl hs₂
      | goto l => exact he.elim
      | panic c => exact he.elim
      | outgrown => exact he.elim
    | exit i => obtain ⟨s₁, hs₁, _⟩ := he; exact hs₁.elim
    | ret => obtain ⟨s₁, hs₁, _⟩ := he; exact hs₁.elim
    | goto l => exact he.elim
    | panic c => exact he.elim
    | outgrown => exact he.elim
  · exact hh.elim

theorem rng_sound {f : RA} {ps : List Nat} {x y : RC} (ihx : Sound P G B w0 I0 nt x) (ihy : Sound P G B w0 I0 nt y) {g : Operand} {prm : Array Tmp} {as bd : Code}
    (hk : (chkA g f && (prm.toList == ps && (ps.all (fun t => decide (t < nt) && decide (t < 1024)) && (chkC P nt as x && chkC P nt bd y)))) = true) {E : Env} {nrm : Bool} (hE : EnvOk P G E ro B w0 I0 gh) {Q : Ex → St → Prop} {s : St} {a : Act} {w : World}
    (h : aw G (OkC P G) (.rng f ps x y) nrm E Q s) (hs : SimT P G B w0 I0 gh nt s a w) : (Code.rangeFunc g prm as bd).wpIn (Fw ro) n P (postQ P G B w0 I0 gh nt Q) a w := by
  simp only [Bool.and_eq_true, beq_iff_eq, List.all_eq_true, decide_eq_true_eq] at hk
  obtain ⟨hf, hps, hall, hkx, hky⟩ := hk
  obtain ⟨tm, σ, nx, nt'⟩ := s
  simp only [aw] at h
  split at h
  · rename_i gi fa fb hca
    split at h
    · rename_i it hit
      have hro : ro = none := by
        cases ro with
        | none => rfl
        | some l => have := hE.none l rfl gi; rw [hit] at this; cases this
      subst hro
      obtain ⟨hnt, hn0, I, ι, D, hx⟩ := hs
      simp only at hnt hn0
      subst hnt
      rw [forceN_eq] at h
      refine wpIn_rangeFunc fun fn _ => ?_
      obtain ⟨xs, ys, hxf, hxl, hyl, hxr, hyr⟩ := callee_rep hca (hx.eval hf)
      let p : LoopAt := ⟨nx, w.heap.size + 1, { state := .ready, pending := none, fn, tmps := a.tmps, params := prm, assign := as, body := bd, defers := w.heap.size }⟩
      let w₁ := (w.alloc (.deferred (some []))).alloc (.loop p.data)
      have hw₁ : ∀ (r : Nat) (o : Obj), w.heap[r]? = some o → w₁.heap[r]? = some o := fun r o hr => by
        have hlt := (Array.getElem?_eq_some_iff.1 hr).1
        rw [Below.heap_alloc _ _ _ (by simp; omega), Below.heap_alloc _ _ _ hlt]; exact hr
      have hBw : B ≤ w.heap.size := Nat.le_trans hx.core.hB hx.core.below.size
      have hbl₁ : Below B w w₁ := ((Below.refl B w).alloc hBw _).alloc (by simp; omega) _
      have hrec₁ : w₁.heap[p.l]? = some (.loop (p.at 0)) := by
        have := World.alloc_heap_new (w.alloc (.deferred (some []))) (.loop p.data)
        rw [World.size_alloc] at this
        exact this
      have hdef₁ : w₁.heap[w.heap.size]? = some (.deferred (some [])) := by
        rw [Below.heap_alloc _ _ _ (by simp)]
        exact World.alloc_heap_new w (.deferred (some []))
      let ι' : Nat → Option Nat := fun b => if b = nx then some p.l else ι b
      let D' : Nat → Prop := fun b => D b ∨ b = nx
      have hDlt : ∀ b, D b → b < nx := hx.names
      obtain ⟨hc₁, hL₁⟩ := hx.core.move (w' := w₁) (ι' := ι') (D' := D') (fun r o hr _ => hw₁ r o hr) (by simp [w₁]; omega) hbl₁ (fun b hb => if_neg (by have := hDlt b hb; omega)) (fun b h => .inl h)
      let yv : Value := .func (.yield p.l) #[] #[]
      have hyl' : RepA w₁ I ι' σ D' yv (.yld nx) := .yld (.inr rfl) ⟨p.l, if_pos rfl, rfl⟩
      let gs : Value → AV → Prop := fun v av => gh.gs v av ∨ (∃ t, t < 1024 ∧ v = a.tmps.getD t undef ∧ av = tm.get tdepth t) ∨ (v = yv ∧ av = .yld p.b)
      have hsza : a.tmps.size = nt' := hx.size
      obtain ⟨henter, hcalls⟩ := hE.itr gi it hit nx _ _ _ _ _ h B w0 I0 gs p w₁ I ι' D' (xs ++ #[yv] ++ ys) hc₁ (fun b hb => by rcases hb with hb | rfl; have := hDlt b hb; omega; omega) (hx.glob.mono hL₁.keeps)
        (by simp only [Array.size_append, List.length_append, hxl, hyl]; rfl)
        (fun j z q hz hq => by
          by_cases h1 : j < fa.length
          · rw [List.getElem?_append_left (by simp; omega), List.getElem?_append_left h1] at hq
            rw [Array.getElem?_append_left (by simp; omega), Array.getElem?_append_left (by omega)] at hz
            exact (hxr j z q hz hq).mono0 hL₁
          · by_cases h2 : j = fa.length
            · rw [List.getElem?_append_left (by simp; omega), List.getElem?_append_right (by omega)] at hq
              rw [Array.getElem?_append_left (by simp; omega), Array.getElem?_append_right (by omega)] at hz
              have e1 : j - fa.length = 0 := by omega
              have e2 : j - xs.size = 0 := by omega
              rw [e1] at hq
              rw [e2] at hz
              simp at hq hz
              subst hq; subst hz
              exact hyl'
            · rw [List.getElem?_append_right (by simp; omega)] at hq
              rw [Array.getElem?_append_right (by simp; omega)] at hz
              simp only [List.length_append, List.length_cons, List.length_nil, Array.size_append] at hq hz
              have e : xs.size + #[yv].size = fa.length + (0 + 1) := by rw [hxl]; rfl
              rw [e] at hz
              exact (hyr _ z q hz hq).mono0 hL₁)
        (fun v av hv => by
          rcases hv with hv | ⟨t, ht, rfl, rfl⟩ | ⟨rfl, rfl⟩
          · exact (hx.ghost v av hv).mono0 hL₁
          · exact (hx.tm t ht).mono0 hL₁
          · exact hyl') rfl (.inr (.inr ⟨rfl, rfl⟩)) (by show B ≤ w.heap.size + 1; omega) hrec₁
        (yld_ok ihx ihy hE.inl hkx hky hps hall hsza (fun t ht => .inr (.inl ⟨t, ht, rfl, rfl⟩)) (by show B ≤ w.heap.size + 1; omega))
      refine ⟨w.heap.size + 1, [{ target := .collected w.heap.size, args := #[] }], w₁, { target := .fn (.func gi) ys, args := xs ++ #[yv] }, w₁, gi, xs ++ #[yv] ++ ys, w₁, run_enterLoop_outer fn a.tmps prm as bd, ?_, fun _ _ => trivial, henter w₁, fun h => by simp [Fence.wide] at h, ?_⟩
      · have e : Array.map a.eval #[Operand.const yv] = #[yv] := by simp [Act.eval]
        simp only [resolve, hxf, Deferred.ofValue, Sem.run_pure]
        show Result.ok ({ target := Target.fn (Fn.func gi) ys, args := xs ++ Array.map a.eval #[Operand.const yv] } : Deferred) w₁ = _
        rw [e]
      · have hc' : CallsIn (Fw none) 0 P gi (xs ++ #[yv] ++ ys) w₁ _ := hcalls
        refine CallsIn.mono (CallsIn.more hc' (Nat.zero_le _)) fun e w₃ he => ?_
        cases e with
        | returned v =>
          obtain ⟨k, σ', nx', I', ι'', D'', hK, hc₂, hle, hD2, hglob, hgs, hstill, hrec⟩ := he
          have hbusy : (p.at k).state ≠ .busy := by
            match k with
            | 0 => intro e; cases e
            | 1 => intro e; cases e
            | i + 2 => intro e; cases e
          have ho : ∀ (o' : Obj) (k : Nat), k ≠ p.l → (w₃.putObj p.l o').heap[k]? = w₃.heap[k]? := fun o' k h => World.putObj_heap_other h
          obtain ⟨hc₄, hL₄⟩ := hc₂.move (w' := w₃.putObj p.l (.loop { p.at k with state := .exhausted })) (ι' := ι'') (D' := D'') (fun r o hr hst => by rw [ho _ _ fun e => by subst e; rw [hrec] at hr; cases hr; cases hst]; exact hr) (by simp)
            ⟨rfl, rfl, rfl, by simp, fun k hk => ho _ k (fun e => by subst e; simp only [p] at hk; omega)⟩ (fun _ _ => rfl) (fun _ h => h)
          have hold : ∀ (r : Nat) (o : Obj), still o = true → w.heap[r]? = some o → (w₃.putObj p.l (.loop { p.at k with state := .exhausted })).heap[r]? = some o := fun r o hst hr => by
            have hlt := (Array.getElem?_eq_some_iff.1 hr).1
            have hne : r ≠ p.l := by simp only [p]; omega
            rw [ho _ _ hne]
            exact hstill r o hne hst (hw₁ r o hr)
          have hsim : SimT P G B w0 I0 gh nt' ⟨tm, σ', nx', nt'⟩ { a with defers := [{ target := .collected w.heap.size, args := #[] }] ++ a.defers } (w₃.putObj p.l (.loop { p.at k with state := .exhausted })) := by
            refine ⟨rfl, by simp only; omega, I', ι'', D'', hc₄, fun b hb => ?_, ?_, hsza, hglob.mono hL₄.keeps, fun t ht => (hgs _ _ (.inr (.inl ⟨t, ht, rfl, rfl⟩))).mono0 hL₄, fun v av hg => (hgs _ _ (.inl hg)).mono0 hL₄, fun b hb => ?_, fun r o hk => ⟨(hx.kept r o hk).1, hold r o (hx.kept r o hk).1 (hx.kept r o hk).2⟩, fun q hq => ?_⟩
            · rcases hD2 b hb with (h | h) | h
              · have := hDlt b h; simp only; omega
              · simp only; omega
              · exact h.2
            · obtain ⟨rs, h1, h2, h3⟩ := hx.dfs
              refine ⟨w.heap.size :: rs, by simp [h1], ?_, fun r hr => ?_⟩
              · rw [List.nodup_cons]
                exact ⟨fun hm => by have := (Array.getElem?_eq_some_iff.1 (h3 _ hm).2.2).1; omega, h2⟩
              · rcases List.mem_cons.1 hr with rfl | hr
                · refine ⟨hBw, fun o hk => ?_, ?_⟩
                  · have := (Array.getElem?_eq_some_iff.1 (hx.kept _ o hk).2).1; omega
                  · have hne : w.heap.size ≠ p.l := by simp only [p]; omega
                    rw [ho _ _ hne]
                    exact hstill _ _ hne rfl hdef₁
                · exact ⟨(h3 r hr).1, (h3 r hr).2.1, hold r _ rfl (h3 r hr).2.2⟩
            · rcases hD2 b hb with (h | h) | h
              · exact hx.base b h
              · exact .inr (by omega)
              · exact .inr (by omega)
            · obtain ⟨h1, h2, k', h3, h4⟩ := hx.loop q hq
              exact ⟨h1, h2, k', h3, hold _ _ rfl h4⟩
          refine ⟨(p.at k).pending, _, run_endLoop hrec hbusy, ?_⟩
          match k, hK, hsim with
          | 0, hK, hsim => exact ⟨_, hK, hsim⟩
          | 1, hK, hsim => exact wpIn_ret ⟨_, hK, hsim⟩
          | i + 2, hK, hsim => exact wpIn_exit ⟨_, hK, hsim⟩
        | panicked ch => exact he.elim
        | outgrown => exact he.elim
    · exact h.elim
  · exact h.elim

theorem aw_sound_all (hm : P.follows .mixedOrders = true) : ∀ (rc : RC), Sound P G B w0 I0 nt rc := by
  intro rc
  induction rc with
  | skip =>
    intro code hk n ro gh E nrm hE hgh Q s a w h hs
    cases code <;> simp only [chkC] at hk <;> try cases hk
    · exact wpIn_skip ⟨s, h, hs⟩
    · exact wpIn_label ⟨s, h, hs⟩
  | reg rs draw =>
    intro code hk n ro gh E nrm hE hgh Q s a w h hs
    cases code <;> simp only [chkC] at hk <;> try cases hk
    simp only [Bool.or_eq_true, Bool.and_eq_true, beq_iff_eq, Bool.not_eq_true'] at hk
    rcases hk with ⟨rfl, hk⟩ | ⟨rfl, rfl, hk⟩
    · exact reg_sound hE hm hk h hs
    · exact calm_sound hE hm hk h hs
  | seq x y ihx ihy =>
    intro code hk n ro gh E nrm hE hgh Q s a w h hs
    cases code <;> simp only [chkC] at hk <;> try cases hk
    simp only [Bool.and_eq_true] at hk
    refine wpIn_seq (wpIn_mono (ihx _ hk.1 n ro gh E nrm hE hgh _ s a w h hs) fun e a' w' he => ?_)
    cases e with
    | normal => obtain ⟨s', h', hs'⟩ := he; exact ihy _ hk.2 n ro gh E nrm hE hgh Q s' a' w' h' hs'
    | exit id => exact he
    | ret => exact he
    | goto l => exact he
    | panic c => exact he
    | outgrown => exact he
  | cond c x y ihx ihy =>
    intro code hk n ro gh E nrm hE hgh Q s a w h hs
    cases code <;> simp only [chkC] at hk <;> try cases hk
    simp only [Bool.and_eq_true] at hk
    obtain ⟨hc, hx, hy⟩ := hk
    simp only [aw, condW] at h
    split at h
    · rename_i b hb
      obtain ⟨I, ι, D, hxx⟩ := hs.2.2
      have hv := hxx.eval hc
      rw [hb] at hv
      have hv := inv_bool hv
      refine wpIn_cond hv ?_
      cases b
      · exact ihy _ hy n ro gh E nrm hE hgh Q s a w h hs
      · exact ihx _ hx n ro gh E nrm hE hgh Q s a w h hs
    · rename_i hb
      obtain ⟨I, ι, D, hxx⟩ := hs.2.2
      have hv := hxx.eval hc
      rw [hb] at hv
      generalize hX : a.eval _ = X at hv
      cases hv with
      | anyB b =>
        refine wpIn_cond hX ?_
        cases b
        · exact ihy _ hy n ro gh E nrm hE hgh Q s a w h.2 hs
        · exact ihx _ hx n ro gh E nrm hE hgh Q s a w h.1 hs
    · exact h.elim
  | block id b ih =>
    intro code hk n ro gh E nrm hE hgh Q s a w h hs
    cases code <;> simp only [chkC] at hk <;> try cases hk
    simp only [Bool.and_eq_true, beq_iff_eq] at hk
    obtain ⟨rfl, hk⟩ := hk
    rename_i id' c
    refine wpIn_block (wpIn_mono (ih _ hk n ro gh E nrm hE hgh _ s a w h hs) fun e a' w' he => ?_)
    cases e with
    | normal => exact he
    | exit i =>
      obtain ⟨s', h', hs'⟩ := he
      simp only [Ex.inBlock] at h'
      simp only [Exit.inBlock]
      by_cases e : i = id'
      · subst e; simp only [beq_self_eq_true] at h'; rw [if_pos rfl]; exact ⟨s', h', hs'⟩
      · have hb : (i == id') = false := by simpa using e
        rw [hb] at h'; rw [if_neg e]; exact ⟨s', h', hs'⟩
    | ret => exact he
    | goto l => exact he
    | panic c => exact he
    | outgrown => exact he
  | loop live b ih =>
    intro code hk n ro gh E nrm hE hgh Q s a w h hs
    cases code <;> simp only [chkC] at hk <;> try cases hk
    rename_i c
    refine LoopIn.wpIn ?_
    have := h (fun s => ∀ a w, SimT P G B w0 I0 gh nt s a w → LoopIn (Fw ro) n P c (postQ P G B w0 I0 gh nt Q) a w) fun s h' a w hs => by
      have hstep : ∃ s', aw G (OkC P G) b nrm E (Ex.then (fun s => ∀ a w, SimT P G B w0 I0 gh nt s a w → LoopIn (Fw ro) n P c (postQ P G B w0 I0 gh nt Q) a w) Q) s' ∧ SimT P G B w0 I0 gh nt s' a w := by
        cases hn : nrm with
        | true =>
          rw [hn] at h'
          simp only [normK_eq] at h'
          have this := hgh hn
          subst this
          exact ⟨_, h', hs.1, Nat.zero_le _, hs.2.2.norm live⟩
        | false =>
          rw [hn] at h'
          exact ⟨_, h', hs⟩
      obtain ⟨s', h', hs'⟩ := hstep
      refine LoopIn.round (wpIn_mono (ih _ hk n ro gh E nrm hE hgh _ s' a w h' hs') fun e a' w' he => ?_)
      cases e with
      | normal => obtain ⟨s', h', hs'⟩ := he; exact h' a' w' hs'
      | exit id => exact he
      | ret => exact he
      | goto l => exact he
      | panic c => exact he
      | outgrown => exact he
    exact this a w hs
  | rng f ps x y ihx ihy =>
    intro code hk n ro gh E nrm hE hgh Q s a w h hs
    cases code <;> simp only [chkC] at hk <;> try cases hk
    exact rng_sound ihx ihy hk hE h hs
  | exit id =>
    intro code hk n ro gh E nrm hE hgh Q s a w h hs
    cases code <;> simp only [chkC] at hk <;> try cases hk
    simp only [beq_iff_eq] at hk
    subst hk
    exact wpIn_exit ⟨s, h, hs⟩
  | scope b ih =>
    intro code hk n ro gh E nrm hE hgh Q s a w h hs
    cases code <;> simp only [chkC] at hk <;> try cases hk
    exact wpIn_scope_straight (ih _ hk n ro gh E nrm hE hgh _ s a w h hs) fun l a w h => h
  | ret =>
    intro code hk n ro gh E nrm hE hgh Q s a w h hs
    cases code <;> simp only [chkC] at hk <;> try cases hk
    exact wpIn_ret ⟨s, h, hs⟩
theorem aw_sound {E : Env} {nrm : Bool} (hE : EnvOk P G E ro B w0 I0 gh) (hm : P.follows .mixedOrders = true) (hgh : nrm = true → gh = Gh.top) (rc : RC) (code : Code) (hk : chkC P nt code rc = true) (Q : Ex → St → Prop) (s : St) (a : Act) (w : World) (h : aw G (OkC P G) rc nrm E Q s) (hs : SimT P G B w0 I0 gh nt s a w) :
    code.wpIn (Fw ro) n P (postQ P G B w0 I0 gh nt Q) a w := aw_sound_all hm rc code hk n ro gh E nrm hE hgh Q s a w h hs
end
end Go.Ab

/- A frame's end takes the marks. Under: nothing. -/
namespace Go.Ab
open Go.RowKit
section
variable {P : Program} {G : Gl} {B : Nat} {w0 : World} {I0 : Imm} {gh : Gh} {N : Nat → Prop} {s : St} {a : Act} {w : World} {I : Imm} {ι : Nat → Option Nat} {σ : Store} {D : Nat → Prop}

theorem Core.put {r : Nat} {x : Option (List Deferred)} {o' : Obj} (hc : Core B w0 I0 w I ι σ D) (hr : w.heap[r]? = some (.deferred x)) (hB : B ≤ r) : Core B w0 I0 (w.putObj r o') I ι σ D ∧ Later0 w I ι σ D (w.putObj r o') I ι σ D := by
  have ho : ∀ k, k ≠ r → (w.putObj r o').heap[k]? = w.heap[k]? := fun k h => World.putObj_heap_other h
  refine hc.move (fun k o hk hst => ?_) (by simp) ⟨rfl, rfl, rfl, by simp, fun k hk => ho k (by omega)⟩ (fun _ _ => rfl) (fun _ h => h)
  rw [ho k fun e => by subst e; rw [hr] at hk; cases hk; cases hst]
  exact hk

theorem SimX.put_mark {r : Nat} {x : Option (List Deferred)} {o' : Obj} {ds : List Deferred} (h : SimX P G B w0 I0 gh N s a w I ι D) (hr : w.heap[r]? = some (.deferred x)) (hB : B ≤ r) (hd : Marks B gh.keep (w.putObj r o') ds) (hk : ∀ o, ¬ gh.keep r o) :
    SimX P G B w0 I0 gh N s { tmps := a.tmps, defers := ds } (w.putObj r o') I ι D := by
  obtain ⟨hc, hL⟩ := h.core.put (o' := o') hr hB
  refine ⟨hc, h.names, hd, h.size, h.glob.mono hL.keeps, fun t ht => (h.tm t ht).mono0 hL, fun v av hg => (h.ghost v av hg).mono0 hL, h.base, fun r' o hk' => ⟨(h.kept r' o hk').1, ?_⟩, fun p hp => ?_⟩
  · rw [World.putObj_heap_other (k := r') (r := r) fun e => hk o (by rw [← e]; exact hk')]; exact (h.kept r' o hk').2
  · obtain ⟨h1, h2, k, h3, h4⟩ := h.loop p hp
    exact ⟨h1, h2, k, h3, by rw [World.putObj_heap_other fun e => by rw [e, hr] at h4; cases h4]; exact h4⟩

/-- The iterator's frame bears the mark from now on. -/
theorem SimX.enter_loop {gs : Value → AV → Prop} {D0 : Nat → Prop} {n0 : Nat} {keep : Nat → Obj → Prop} {tm : T} {nx nt : Nat} {p : LoopAt} (h : SimX P G B w0 I0 ⟨gs, D0, n0, keep, none⟩ N ⟨tm, σ, nx, nt⟩ a w I ι D) (hnt : nt ≤ 1023) (hB : B ≤ p.l) (hr : w.heap[p.l]? = some (.loop (p.at 0))) :
    SimX P G B w0 I0 ⟨gs, D0, n0, keep, some p⟩ N ⟨tm.set tdepth markT (.mark 0), σ, nx, nt⟩ a w I ι D := by
  refine ⟨h.core, h.names, h.dfs, h.size, h.glob, fun t ht => ?_, h.ghost, h.base, h.kept, fun q hq => ?_⟩
  · simp only [get_set]
    split
    · exact .mark _ _
    · exact h.tm t ht
  · cases hq
    exact ⟨hnt, hB, 0, by simp only [get_set, if_true], hr⟩
end
end Go.Ab

/- A function's contract from its own code. Under: nothing. -/
namespace Go.Ab
open Go.RowKit

def chkRes (P : Program) : List ResultVar → List RRes → Bool
  | [], [] => true
  | .tmp t :: l, .tmp u :: m => t == u && decide (t < 1024) && chkRes P l m
  | .cell a t :: l, .cell b agg n :: m => a == b && decide (a < 1024) && chkSize P t n && chkAgg P t agg && chkRes P l m
  | _, _ => false

/-- The model's function is that of the own code. -/
def chkFn (P : Program) (g : Nat) (c : RFn) : Bool := match P.funcs[g]? with
  | some fn => (match fn.body with
    | some code => !(fn.name == "runtime.NumGoroutine") && fn.ntmps == c.ntmps && decide (c.nparams ≤ c.ntmps) && decide (c.nparams ≤ 1024) && chkRes P fn.results.toList c.res && chkC P c.ntmps code c.body
    | none => false)
  | none => false

def argsT : Nat → List AV → T → T
  | _, [], t => t
  | i, p :: l, t => argsT (i + 1) l (t.set tdepth i p)

theorem argsK_eq {α : Sort _} : ∀ (l : List PV) (i : Nat) (t : T) (K : T → α), argsK i l t K = K (argsT i (l.map .pv) t)
  | [], i, t, K => rfl
  | p :: l, i, t, K => by simp only [argsK, List.map_cons, argsT, setK_eq]; exact argsK_eq l _ _ K

theorem argsAK_eq {α : Sort _} : ∀ (l : List AV) (i : Nat) (t : T) (K : T → α), argsAK i l t K = K (argsT i l t)
  | [], i, t, K => rfl
  | p :: l, i, t, K => by simp only [argsAK, argsT, forceA_eq, setK_eq]; exact argsAK_eq l _ _ K

theorem get_argsT : ∀ (l : List AV) (i : Nat) (t : T) (n : Nat), n < 1024 → i + l.length ≤ 1024 → (argsT i l t).get tdepth n = if h : i ≤ n ∧ n < i + l.length then l[n - i]'(by omega) else t.get tdepth n
  | [], i, t, n, _, _ => by simp only [argsT, List.length_nil]; rw [dif_neg (by omega)]
  | p :: l, i, t, n, hn, hi => by
    simp only [argsT]
    simp only [List.length_cons] at hi
    rw [get_argsT l (i + 1) _ n hn (by omega)]
    by_cases h : i + 1 ≤ n ∧ n < i + 1 + l.length
    · rw [dif_pos h, dif_pos (by simp only [List.length_cons]; omega)]
      have e : n - i = (n - (i + 1)) + 1 := by omega
      simp only [e, List.getElem_cons_succ]
    · rw [dif_neg h, get_set]
      have e1 : n % 2 ^ tdepth = n := Nat.mod_eq_of_lt hn
      have e2 : i % 2 ^ tdepth = i := Nat.mod_eq_of_lt (by show i < 1024; omega)
      rw [e1, e2]
      by_cases h2 : n = i
      · subst h2
        rw [if_pos rfl, dif_pos (by simp only [List.length_cons]; omega)]
        simp
      · rw [if_neg h2, dif_neg (by simp only [List.length_cons]; omega)]

section
variable {P : Program} {G : Gl} {B : Nat} {w0 : World} {I0 : Imm} {w : World} {I : Imm} {ι : Nat → Option Nat} {σ : Store} {D : Nat → Prop}

theorem load_run (hs : SimS B w I ι σ D) {x : Value} {a : AV} {ev : RA → AV} {y : RA} {t n nm : Nat} {agg : Bool} {e : Eff} (hsz : chkSize P t n = true) (hg : chkAgg P t agg = true) (hev : ev y = a) (hx : RepA w I ι σ D x a)
    (h : step σ nm ev (.load agg n y) = some e) : ∃ ad v, x = .pointer (some ad) ∧ (loadVar t ad).run P w = .ok v w ∧ RepA w I ι σ D v e.v := by
  simp only [step, hev] at h
  split at h
  · rename_i b i j
    split at h
    · rename_i o ho
      split at h
      · rename_i row hrow
        split at h
        · rename_i hjn
          split at h
          · rename_i v hv
            cases h
            cases hx with
            | ptr hD hone hx =>
              obtain ⟨r, hr, rfl⟩ := hx o ho
              obtain ⟨r', c, T, fz, k1, k2, k3, k4, k5, k6⟩ := row_cells hs ho hrow
              rw [hr] at k1; cases k1
              obtain ⟨v', hv', hrep⟩ := run_loadVar (w := w) (o := i * o.es + j) (r := r) hsz hg hv (by simp; omega) (fun k q hq => by
                have hk : k < n := by have := (List.getElem?_eq_some_iff.1 hq).1; simp at this; omega
                rw [List.getElem?_take_of_lt hk, List.getElem?_drop] at hq
                obtain ⟨x', hx', hrep⟩ := k6 (j + k) q hq
                exact ⟨x', by rw [cell_of k2, Nat.add_assoc]; exact hx', hrep.2⟩)
              exact ⟨_, v', rfl, hv', hrep⟩
          · cases h
        · cases h
      · cases h
    · cases h
  · rename_i cs
    split at h
    · rename_i hn
      split at h
      · rename_i v hv
        cases h
        cases hx with
        | pv hx =>
          cases hx with
          | ref f ha hp hr =>
            rename_i a
            obtain ⟨ab, ao, as⟩ := a
            simp only at ha; subst ha
            obtain ⟨v', hv', hrep⟩ := run_loadVar (w := w) (I := I) (ι := ι) (σ := σ) (D := D) (o := ao) (r := ab) hsz hg hv (by simp; omega) (fun k q hq => by
              have hk : k < n := by have := (List.getElem?_eq_some_iff.1 hq).1; simp at this; omega
              simp only [List.getElem?_map, Option.map_eq_some_iff] at hq
              obtain ⟨q', hq', rfl⟩ := hq
              rw [List.getElem?_take_of_lt hk] at hq'
              exact ⟨f k, (hp k (by omega)).1, .pv (hr k q' hq')⟩)
            exact ⟨_, v', rfl, hv', hrep⟩
      · cases h
    · cases h
  · cases h

/-- The named results' values. -/
def resSem (tmps : Array Value) : ResultVar → Sem Value
  | .tmp t => pure (tmps.getD t undef)
  | .cell a t => do loadVar t (← asAddr (tmps.getD a undef))

theorem run_res {gh : Gh} {N : Nat → Prop} {s : St} {a : Act} (hx : SimX P G B w0 I0 gh N s a w I ι D) : ∀ (l : List ResultVar) (m : List RRes) (vs : List AV), chkRes P l m = true → resAs G s m = some vs →
    ∃ xs : List Value, (l.mapM (resSem a.tmps)).run P w = .ok xs w ∧ xs.length = vs.length ∧ ∀ (j : Nat) (x : Value) (q : AV), xs[j]? = some x → vs[j]? = some q → RepA w I ι s.σ D x q
  | [], [], vs, _, h => by simp only [resAs] at h; cases h; exact ⟨[], by simp, rfl, fun j x q hx => by simp at hx⟩
  | r :: l, c :: m, vs, hk, h => by
    simp only [resAs] at h
    split at h
    · rename_i v hv
      split at h
      · rename_i vs' hvs
        cases h
        have hk2 : chkRes P l m = true := by
          cases r <;> cases c <;> simp only [chkRes, Bool.and_eq_true] at hk
          · exact hk.2
          · cases hk
          · cases hk
          · exact hk.2
        obtain ⟨xs, h1, h2, h3⟩ := run_res hx l m vs' hk2 hvs
        have one : ∃ x, (resSem a.tmps r).run P w = .ok x w ∧ RepA w I ι s.σ D x v := by
          cases r with
          | tmp t =>
            cases c with
            | tmp u =>
              simp only [chkRes, Bool.and_eq_true, beq_iff_eq, decide_eq_true_eq] at hk
              obtain ⟨⟨rfl, hlt⟩, _⟩ := hk
              simp only [resA] at hv; cases hv
              exact ⟨_, rfl, hx.tm t hlt⟩
            | cell u g n => simp [chkRes] at hk
          | cell t ty =>
            cases c with
            | tmp u => simp [chkRes] at hk
            | cell u g n =>
              simp only [chkRes, Bool.and_eq_true, beq_iff_eq, decide_eq_true_eq] at hk
              obtain ⟨⟨⟨⟨rfl, hlt⟩, hsz⟩, hg⟩, _⟩ := hk
              simp only [resA] at hv
              split at hv
              · rename_i e he
                cases hv
                obtain ⟨ad, v, e1, e2, e3⟩ := load_run hx.core.sims hsz hg rfl (hx.tm t hlt) he
                exact ⟨v, by simp [resSem, e1, asAddr, e2], e3⟩
              · cases hv
        obtain ⟨x, g1, g2⟩ := one
        refine ⟨x :: xs, ?_, by simp [h2], fun j y q hy hq => ?_⟩
        · rw [List.mapM_cons]
          simp [g1, h1]
        · cases j with
          | zero => simp at hy hq; subst hy; subst hq; exact g2
          | succ j => simp at hy hq; exact h3 j y q hy hq
      · cases h
    · cases h
  | [], _ :: _, _, hk, _ => by simp [chkRes] at hk
  | _ :: _, [], _, hk, _ => by simp [chkRes] at hk

theorem results_run {gh : Gh} {N : Nat → Prop} {s : St} {a : Act} {fn : Func} {m : List RRes} {vs : List AV} (hx : SimX P G B w0 I0 gh N s a w I ι D) (hk : chkRes P fn.results.toList m = true) (h : resAs G s m = some vs) :
    ∃ v, (results fn a.tmps).run P w = .ok v w ∧ RepA w I ι s.σ D v (resPV vs) := by
  obtain ⟨xs, h1, h2, h3⟩ := run_res hx _ _ _ hk h
  have hr : (results fn a.tmps).run P w = .ok (if h : xs.toArray.size = 1 then xs.toArray[0] else .tuple xs.toArray) w := by
    have e : results fn a.tmps = (do let vs ← fn.results.mapM (resSem a.tmps); pure (if h : vs.size = 1 then vs[0] else .tuple vs)) := by
      unfold results
      congr 1
    rw [e, Array.mapM_eq_mapM_toList]
    simp [h1]
  refine ⟨_, hr, ?_⟩
  cases xs with
  | nil =>
    have : vs = [] := List.eq_nil_of_length_eq_zero h2.symm
    subst this
    exact .tup rfl fun j x q hx => by simp at hx
  | cons x xs =>
    cases xs with
    | nil =>
      cases vs with
      | nil => simp at h2
      | cons v vs =>
        have : vs = [] := List.eq_nil_of_length_eq_zero (by simpa using h2.symm)
        subst this
        exact h3 0 x v rfl rfl
    | cons y ys =>
      cases vs with
      | nil => simp at h2
      | cons v vs =>
        cases vs with
        | nil => simp at h2
        | cons v' vs =>
          have : ¬ (x :: y :: ys).toArray.size = 1 := by simp
          rw [dif_neg this]
          exact .tup (by simpa using h2) fun j z q hz hq => h3 j z q (by simpa using hz) hq
end


theorem leaves_of {P : Program} {G : Gl} {B : Nat} {w0 : World} {I0 : Imm} {gh : Gh} {N : Nat → Prop} {s : St} {I : Imm} {ι : Nat → Option Nat} {D : Nat → Prop} {F : Fence} {n : Nat} {fn : Func} {m : List RRes} {vs : List AV} {R : Ending → World → Prop} {tmps : Array Value}
    (hk : chkRes P fn.results.toList m = true) (h : resAs G s m = some vs) : ∀ (rs : List Nat) (ds : List Deferred) (w : World), ds.map (·.target) = rs.map Target.collected → rs.Nodup → (∀ r ∈ rs, B ≤ r ∧ (∀ o, ¬ gh.keep r o) ∧ w.heap[r]? = some (.deferred (some []))) →
      SimX P G B w0 I0 gh N s { tmps := tmps, defers := ds } w I ι D →
      (∀ w' v, SimX P G B w0 I0 gh N s { tmps := tmps, defers := [] } w' I ι D → RepA w' I ι s.σ D v (resPV vs) → R (.returned v) w') → LeavesInM F n P fn tmps R ds .returning w
  | [], [], w, _, _, _, hx, hR => by
    obtain ⟨v, hv, hrep⟩ := results_run hx hk h
    exact ⟨v, hv, hR w v hx hrep⟩
  | r :: rs, d :: ds, w, hm, hnd, hr, hx, hR => by
    simp only [List.map_cons, List.cons.injEq] at hm
    obtain ⟨hm1, hm2⟩ := hm
    rw [List.nodup_cons] at hnd
    obtain ⟨hB, hkp, hh⟩ := hr r (by simp)
    have hr' : ∀ r' ∈ rs, B ≤ r' ∧ (∀ o, ¬ gh.keep r' o) ∧ (w.putObj r (.deferred none)).heap[r']? = some (.deferred (some [])) := fun r' hr' => by
      have hne : r' ≠ r := fun e => hnd.1 (e ▸ hr')
      exact ⟨(hr r' (by simp [hr'])).1, (hr r' (by simp [hr'])).2.1, (World.putObj_heap_other hne).trans (hr r' (by simp [hr'])).2.2⟩
    refine ⟨by simp, .inl ⟨r, w.putObj r (.deferred none), hm1, run_takeDeferred hh, ?_⟩⟩
    exact leaves_of hk h rs ds _ hm2 hnd.2 hr' (hx.put_mark hh hB ⟨rs, hm2, hnd.2, hr'⟩ hkp) hR
  | [], _ :: _, _, hm, _, _, _, _ => by simp at hm
  | _ :: _, [], _, hm, _, _, _, _ => by simp at hm
end Go.Ab

/- A function's contract from its own code. Under: nothing. -/
namespace Go.Ab
open Go.RowKit
theorem start_sim {P : Program} {G : Gl} {B : Nat} {w0 : World} {I0 : Imm} {w : World} {I : Imm} {ι : Nat → Option Nat} {σ : Store} {D : Nat → Prop} {gs : Value → AV → Prop} {D0 : Nat → Prop} {n0 : Nat} {keep : Nat → Obj → Prop} {vs : Array Value} {as : List AV} {nt nx : Nat} (hc : Core B w0 I0 w I ι σ D) (hn : ∀ b, D b → b < nx)
    (hg : GlobOk P G w I) (hl : vs.size = as.length) (ha : ∀ (j : Nat) (x : Value) (q : AV), vs[j]? = some x → as[j]? = some q → RepA w I ι σ D x q) (hgs : ∀ v av, gs v av → RepA w I ι σ D v av) (hb : ∀ b, D b → D0 b ∨ n0 ≤ b) (h0 : n0 ≤ nx) (hkp : ∀ r o, keep r o → still o = true ∧ w.heap[r]? = some o)
    (h1 : as.length ≤ nt) (h2 : as.length ≤ 1024) :
    SimT P G B w0 I0 ⟨gs, D0, n0, keep, none⟩ nt { tm := argsT 0 as .nil, σ := σ, nx := nx, nt := nt } { tmps := vs ++ Array.replicate (nt - vs.size) undef, defers := [] } w := by
  refine ⟨rfl, h0, I, ι, D, hc, hn, ⟨[], rfl, List.nodup_nil, fun r h => by cases h⟩, ?_, hg, fun t ht => ?_, hgs, hb, hkp, fun _ h => by cases h⟩
  · simp only [Array.size_append, Array.size_replicate]
    omega
  · show RepA w I _ _ _ _ ((argsT 0 as .nil).get tdepth t)
    rw [get_argsT as 0 .nil t ht (by omega)]
    by_cases h : 0 ≤ t ∧ t < 0 + as.length
    · rw [dif_pos h]
      have hv : t < vs.size := by omega
      refine ha t _ _ ?_ (List.getElem?_eq_getElem (by omega))
      simp [Array.getD, hv, Nat.lt_add_right]
    · rw [dif_neg h, get_nil]; exact .undef _

structure FnFacts (P : Program) (g : Nat) (c : RFn) (fn : Func) (code : Code) : Prop where
  func : P.funcs[g]? = some fn
  body : fn.body = some code
  name : ¬ fn.name = "runtime.NumGoroutine"
  nt : fn.ntmps = c.ntmps
  np : c.nparams ≤ c.ntmps
  np' : c.nparams ≤ 1024
  res : chkRes P fn.results.toList c.res = true
  code : chkC P c.ntmps code c.body = true

theorem chkFn_spec {P : Program} {g : Nat} {c : RFn} (hk : chkFn P g c = true) : ∃ fn code, FnFacts P g c fn code := by
  unfold chkFn at hk
  split at hk
  · rename_i fn hf
    split at hk
    · rename_i code hb
      simp only [Bool.and_eq_true, Bool.not_eq_true', beq_iff_eq, decide_eq_true_eq] at hk
      obtain ⟨⟨⟨⟨⟨hname, hnt⟩, hp1⟩, hp2⟩, hres⟩, hcode⟩ := hk
      exact ⟨fn, code, hf, hb, by simpa using hname, hnt, hp1, hp2, hres, hcode⟩
    · cases hk
  · cases hk

theorem FnFacts.enter {P : Program} {g : Nat} {c : RFn} {fn : Func} {code : Code} (h : FnFacts P g c fn code) (vs : Array Value) (w₁ : World) : (callFunc g vs).run P w₁ = .ok (.enter g vs) w₁ := by
  unfold callFunc
  simp [h.func, h.name, h.body]

def chkItr (P : Program) (g : Nat) (c : RFn) : Bool := chkFn P g c && (decide (c.ntmps ≤ 1023) && c.res.isEmpty)

/-- The functions of a table of which each is the model's may be run on their callers' stores; so may the iterators. -/
theorem envD_ok {P : Program} {G : Gl} (hm : P.follows .mixedOrders = true) {ext : Nat → Option RunI} (hext : InlOk P G fun g => (ext g).map extH) {tab tabI : Nat → Option RFn} (htab : ∀ g c, tab g = some c → chkFn P g c = true) (htabI : ∀ g c, tabI g = some c → chkItr P g c = true) :
    ∀ d, InlOk P G (envD G (OkC P G) ext tab tabI d).inl ∧ ItrOk P G (envD G (OkC P G) ext tab tabI d).itr
  | 0 => ⟨fun g h hg => by simp [envD] at hg, fun g h hg => by simp [envD] at hg⟩
  | d + 1 => by
    obtain ⟨ih1, ih2⟩ := envD_ok (G := G) hm hext htab htabI d
    refine ⟨fun g h hg => ?_, fun g h hg => ?_⟩
    · simp only [envD] at hg
      cases hx : ext g with
      | some r =>
        rw [hx] at hg
        exact hext g h (by simp only [hx, Option.map_some]; exact hg)
      | none =>
      rw [hx] at hg
      simp only at hg
      split at hg
      · rename_i c hc
        cases hg
        intro args σ nx K hrun B w0 I0 gs w I ι D vs hcore hD hglob hl ha hgs
        obtain ⟨fn, code, hf⟩ := chkFn_spec (htab g c hc)
        split at hrun
        · rename_i hlen
          rw [beq_iff_eq] at hlen
          rw [argsAK_eq] at hrun
          refine ⟨hf.enter vs, callsIn_of_wp_marks hf.func hf.body trivial ?_⟩
          rw [hf.nt]
          have hsim := start_sim (gs := gs) (D0 := D) (n0 := nx) (keep := fun r o => still o = true ∧ w.heap[r]? = some o) (nt := c.ntmps) hcore hD hglob hl ha hgs (fun b h => .inl h) (Nat.le_refl _) (fun r o h => h) (by have := hf.np; omega) (by have := hf.np'; omega)
          have hE : EnvOk P G (envD G (OkC P G) ext tab tabI d) none B w0 I0 ⟨gs, D, nx, fun r o => still o = true ∧ w.heap[r]? = some o, none⟩ := ⟨ih1, ih2, (fun _ h => by cases h), fun b h e => by cases d <;> simp [envD] at e⟩
          refine wpIn_mono (aw_sound (ro := none) hE hm (fun h => by cases h) c.body code hf.code _ _ _ _ hrun hsim) fun e a w' he => ?_
          have fin : ∀ s, (match s with | ⟨tm, σ, nx, nt⟩ => match resAs G ⟨tm, σ, nx, nt⟩ c.res with | some vs => forceA (resPV vs) fun v => K v σ nx | none => False) → SimT P G B w0 I0 ⟨gs, D, nx, fun r o => still o = true ∧ w.heap[r]? = some o, none⟩ c.ntmps s a w' →
              LeavesInM Fence.wide 0 P fn a.tmps (InlPost P G B w0 I0 gs D w nx K) a.defers .returning w' := by
            intro s hs ⟨_, hle, I₁, ι₁, D₁, hx⟩
            obtain ⟨tm, σ', nx', nt⟩ := s
            simp only at hs
            split at hs
            · rename_i vs' hvs
              rw [forceA_eq] at hs
              obtain ⟨rs, m1, m2, m3⟩ := hx.dfs
              refine leaves_of hf.res hvs rs a.defers w' m1 m2 m3 hx fun w₂ v hx hrep => ?_
              exact ⟨resPV vs', σ', nx', I₁, ι₁, D₁, hs, hx.core, hle, fun b hb => (hx.base b hb).elim .inl fun h => .inr ⟨h, hx.names b hb⟩, hrep, hx.glob, hx.ghost, fun r o h1 h2 => (hx.kept r o ⟨h1, h2⟩).2⟩
            · exact hs.elim
          cases e with
          | normal => obtain ⟨s, hq, hs⟩ := he; exact fin s hq hs
          | ret => obtain ⟨s, hq, hs⟩ := he; exact fin s hq hs
          | exit i => obtain ⟨s, hq, hs⟩ := he; exact hq.elim
          | goto l => exact he.elim
          | panic ch => exact he.elim
          | outgrown => exact he.elim
        · exact hrun.elim
      · cases hg
    · simp only [envD] at hg
      split at hg
      · rename_i c hc
        cases hg
        intro b hh args σ nx K hrun B w0 I0 gs p w I ι D vs hcore hD hglob hl ha hgs hpb hgy hBl hrec hY
        have hci := htabI g c hc
        simp only [chkItr, Bool.and_eq_true, decide_eq_true_eq, List.isEmpty_iff] at hci
        obtain ⟨hcf, hnt, hres⟩ := hci
        obtain ⟨fn, code, hf⟩ := chkFn_spec hcf
        split at hrun
        · rename_i hlen
          rw [beq_iff_eq] at hlen
          rw [argsAK_eq, setK_eq] at hrun
          refine ⟨hf.enter vs, callsIn_of_wp_marks hf.func hf.body trivial ?_⟩
          rw [hf.nt]
          obtain ⟨s1, s2, I₁, ι₁, D₁, s3⟩ := start_sim (gs := gs) (D0 := D) (n0 := nx) (keep := fun r o => still o = true ∧ w.heap[r]? = some o ∧ r ≠ p.l) (nt := c.ntmps) hcore hD hglob hl ha hgs (fun b h => .inl h) (Nat.le_refl _) (fun r o h => ⟨h.1, h.2.1⟩) (by have := hf.np; omega) (by have := hf.np'; omega)
          have hE : EnvOk P G ⟨(envD G (OkC P G) ext tab tabI d).inl, (envD G (OkC P G) ext tab tabI d).itr, some (b, hh)⟩ none B w0 I0 ⟨gs, D, nx, fun r o => still o = true ∧ w.heap[r]? = some o ∧ r ≠ p.l, some p⟩ :=
            ⟨ih1, ih2, (fun _ h => by cases h), fun b' h' e => by cases e; exact ⟨p, rfl, hpb, fun o hk => hk.2.2 rfl, hgy, hY⟩⟩
          refine wpIn_mono (aw_sound (ro := none) hE hm (fun h => by cases h) c.body code hf.code _ _ _ _ hrun ⟨s1, s2, I₁, ι₁, D₁, s3.enter_loop hnt hBl hrec⟩) fun e a w' he => ?_
          have fin : ∀ s, (match s with | ⟨tm, σ, nx, _⟩ => forceA (tm.get tdepth markT) fun v => K v σ nx) → SimT P G B w0 I0 ⟨gs, D, nx, fun r o => still o = true ∧ w.heap[r]? = some o ∧ r ≠ p.l, some p⟩ c.ntmps s a w' →
              LeavesInM Fence.wide 0 P fn a.tmps (ItrPost P G B w0 I0 p gs D w nx K) a.defers .returning w' := by
            intro s hs ⟨_, hle, I₁, ι₁, D₁, hx⟩
            obtain ⟨tm, σ', nx', nt⟩ := s
            simp only at hs
            rw [forceA_eq] at hs
            obtain ⟨rs, m1, m2, m3⟩ := hx.dfs
            refine leaves_of (vs := []) hf.res (by rw [hres]; rfl) rs a.defers w' m1 m2 m3 hx fun w₂ v hx hrep => ?_
            obtain ⟨_, _, k, hk1, hk2⟩ := hx.loop p rfl
            simp only at hk1
            rw [hk1] at hs
            exact ⟨k, σ', nx', I₁, ι₁, D₁, hs, hx.core, hle, fun b hb => (hx.base b hb).elim .inl fun h => .inr ⟨h, hx.names b hb⟩, hx.glob, hx.ghost, fun r o h0 h1 h2 => (hx.kept r o ⟨h1, h2, h0⟩).2, hk2⟩
          cases e with
          | normal => obtain ⟨s, hq, hs⟩ := he; exact fin s hq hs
          | ret => obtain ⟨s, hq, hs⟩ := he; exact fin s hq hs
          | exit i => obtain ⟨s, hq, hs⟩ := he; exact hq.elim
          | goto l => exact he.elim
          | panic ch => exact he.elim
          | outgrown => exact he.elim
        · exact hrun.elim
      · cases hg

/-- The rows of an own block that is handed out, and what they show. -/
def outRows (σ : Store) (b : Nat) : Option (Nat × List (List PV) × List Nat) :=
  match find σ b with
  | some (.arr es rows false) => some (es, rows, [])
  | some (.box es rowsA false) => (match pubR (pub σ 8) rowsA with
    | some (rows, m) => (match m.any (· == b) with | true => none | false => some (es, rows, m))
    | none => none)
  | _ => none

/-- The end of a function that hands out one slice of its own. -/
def retO (G : Gl) (rs : List RRes) (es : Nat) (rows : List (List PV)) (e : Ex) (st : St) : Prop :=
  match e with
  | .exit _ => False
  | _ => ∃ b m, resAs G st rs = some [.own b 0 rows.length] ∧ outRows st.σ b = some (es, rows, m)

/-- What is handed out, by the new name. -/
theorem out_rep {B : Nat} {w : World} {I : Imm} {ι : Nat → Option Nat} {σ : Store} {D : Nat → Prop} {b es : Nat} {rows : List (List PV)} {m : List Nat} {v : Value} (hs : SimS B w I ι σ D) (ho : outRows σ b = some (es, rows, m)) (hrep : RepA w I ι σ D v (.own b 0 rows.length)) (nm : Nat) :
    SimS B w (sealI I ι σ m) (fun x => if x = nm then ι b else none) [(nm, some (.arr es rows false))] (Names nm) ∧ RepA w (sealI I ι σ m) (fun x => if x = nm then ι b else none) [(nm, some (.arr es rows false))] (Names nm) v (.own nm 0 rows.length) := by
  obtain ⟨hs', hL'⟩ := hs.sealO m
  have main : ∃ o, find σ b = some o ∧ find (sealAll σ m) b = some o ∧ o.sealed = false ∧ o.isMap = false ∧ o.es = es ∧ o.len = rows.length ∧
      ∀ (i : Nat) (rowA : List AV) (row : List PV), o.row? i = some rowA → rows[i]? = some row → rowA.length = row.length ∧ ∀ (j : Nat) (x : Value) (a : AV) (p : PV), rowA[j]? = some a → row[j]? = some p → RepA w I ι σ D x a → RepP w (sealI I ι σ m) x p := by
    unfold outRows at ho
    split at ho
    · rename_i es' rows' hf
      cases ho
      refine ⟨_, hf, by simpa [sealAll] using hf, rfl, rfl, rfl, rfl, fun i rowA row h1 h2 => ?_⟩
      simp only [SObj.row?, h2] at h1
      cases h1
      refine ⟨by simp, fun j x a p ha hp hr => ?_⟩
      rw [List.getElem?_map, hp] at ha
      cases ha
      cases hr with | pv h => exact h.mono keeps_seal
    · rename_i es' rowsA hf
      split at ho
      · rename_i rows' m' hp
        split at ho
        · cases ho
        · rename_i hnm
          cases ho
          have hb : b ∉ m := by
            intro hb
            rw [List.any_eq_false] at hnm
            exact hnm b hb (by simp)
          obtain ⟨e1, e2⟩ := pubR_rep (pub_rep (M := m) hs 8) _ _ _ hp fun _ h => h
          refine ⟨_, hf, ?_, rfl, rfl, rfl, e1, fun i rowA row h1 h2 => ?_⟩
          · rw [find_sealAll, hf]; simp [hb]
          · exact (e2 i rowA row h1 h2).imp id fun h j x a p ha hp hr => h j a p x ha hp hr
      · cases ho
    · cases ho
  obtain ⟨o, hf, hf', hsl, hmap, hes, hlen, hcell⟩ := main
  have key : ∀ b' o', find [(nm, some (SObj.arr es rows false))] b' = some o' → b' = nm ∧ o' = .arr es rows false := by
    intro b' o' h
    simp only [find] at h
    split at h
    · rename_i hb; rw [beq_iff_eq] at hb; cases h; exact ⟨hb.symm, rfl⟩
    · cases h
  have hrows : RowsRep w I ι σ D b o := by
    have := hs.obj b o hf
    cases o with
    | map ents => simp [SObj.isMap] at hmap
    | arr e r sl => exact this
    | box e r sl => exact this
  refine ⟨⟨hs'.bnd, fun b' o' h => ?_, fun b₁ b₂ o₁ o₂ r h₁ h₂ _ _ => (key b₁ o₁ h₁).1.trans (key b₂ o₂ h₂).1.symm, fun b' o' r h e => ?_, fun b' o' r k h e hi => ?_, fun b' o' h => ?_⟩, ?_⟩
  · obtain ⟨rfl, _⟩ := key b' o' h; exact ⟨Nat.le_refl _, by simp [stride]⟩
  · obtain ⟨rfl, rfl⟩ := key b' o' h
    rw [if_pos rfl] at e
    exact hs.ge b o r hf e
  · obtain ⟨rfl, rfl⟩ := key b' o' h
    rw [if_pos rfl] at e
    have := (hs'.sep b o r k hf' e hi).1
    rw [hsl] at this; cases this
  · obtain ⟨rfl, rfl⟩ := key b' o' h
    rcases hrows with ⟨h1, h2⟩ | ⟨r, cc, T, fz, h1, h2, h3, h4, h5⟩
    · exact .inl ⟨by simp only [if_true]; exact h1, by simp only [SObj.len]; omega⟩
    · refine .inr ⟨r, cc, T, fz, by simp only [if_true]; exact h1, h2, h3, by simp only [SObj.len, SObj.es]; rw [← hes, ← hlen]; exact h4, fun i row hrow => ?_⟩
      simp only [SObj.row?] at hrow
      split at hrow
      · rename_i r0 hr0
        cases hrow
        have hi : i < o.len := by rw [hlen]; exact (List.getElem?_eq_some_iff.1 hr0).1
        obtain ⟨rowA, hrowA⟩ : ∃ rowA, o.row? i = some rowA := by
          cases o with
          | map ents => simp [SObj.isMap] at hmap
          | arr e r sl => simp only [SObj.len] at hi; exact ⟨r[i].map .pv, by simp only [SObj.row?, List.getElem?_eq_getElem hi]⟩
          | box e r sl => simp only [SObj.len] at hi; exact ⟨_, by simp only [SObj.row?]; exact List.getElem?_eq_getElem hi⟩
        obtain ⟨l1, l2⟩ := hcell i rowA r0 hrowA hr0
        obtain ⟨k1, k2⟩ := h5 i rowA hrowA
        refine ⟨by simp only [List.length_map, SObj.es]; rw [← l1, k1, hes], fun j v' hv' => ?_⟩
        rw [List.getElem?_map, Option.map_eq_some_iff] at hv'
        obtain ⟨p, hp, rfl⟩ := hv'
        have hj : j < rowA.length := by rw [l1]; exact (List.getElem?_eq_some_iff.1 hp).1
        obtain ⟨x, hx1, hx2, hx3⟩ := k2 j _ (List.getElem?_eq_getElem hj)
        exact ⟨x, by simp only [SObj.es]; rw [← hes]; exact hx1, hx2, .pv (l2 j x _ p (List.getElem?_eq_getElem hj) hp hx3)⟩
      · cases hrow
  · cases hrep with
    | own hD hone hv =>
      refine .own ⟨Nat.le_refl _, by simp [stride]⟩ hone fun o' ho' => ?_
      simp only [find, beq_self_eq_true] at ho'
      cases ho'
      obtain ⟨p, cap, k1, k2, k3, k4⟩ := hv _ hf
      refine ⟨p, cap, k1, by simp only [SObj.len]; omega, ⟨k3.1, by have := k3.2; simp only [SObj.len]; omega⟩, k4.imp id fun ⟨r, cc, T, fz, g1, g2, g3, g4⟩ => ⟨r, cc, T, fz, by simp only [if_true]; exact g1, by simp only [SObj.es]; rw [← hes]; exact g2, g3, by simp only [SObj.es]; rw [← hes]; exact g4⟩⟩

def fnO (G : Gl) (Ok : Nat → List PV → Own → PV → Prop) (ext : Nat → Option RunI) (tab tabI : Nat → Option RFn) (d : Nat) (f : RFn) (args : List PV) (es : Nat) (rows : List (List PV)) : Prop :=
  argsK 0 args .nil fun tm => aw G Ok f.body true (envD G Ok ext tab tabI d) (retO G f.res es rows) { tm := tm, σ := [], nx := 0, nt := f.ntmps }

/-- A function all of whose results are handed out pure. -/
theorem ok_of_fnW {P : Program} {G : Gl} {g : Nat} {c : RFn} {ps : List PV} {r : PV} (hm : P.follows .mixedOrders = true) (hk : chkFn P g c = true) {ext : Nat → Option RunI} (hext : InlOk P G fun g => (ext g).map extH) {tab tabI : Nat → Option RFn} (htab : ∀ g c, tab g = some c → chkFn P g c = true) (htabI : ∀ g c, tabI g = some c → chkItr P g c = true) {d : Nat}
    (hl : ps.length = c.nparams) (h : fnW G (OkC P G) ext tab tabI d c ps r) : OkC P G g ps [] r := by
  obtain ⟨fn, code, hf⟩ := chkFn_spec hk
  intro w I vs hbnd hglob hargs
  refine ⟨hf.enter vs, callsIn_of_wp_marks hf.func hf.body trivial ?_⟩
  simp only [fnW, argsK_eq] at h
  rw [hf.nt]
  have hcore : Core w.heap.size w I w I (fun _ => none) [] (fun _ => False) := ⟨⟨hbnd, fun b o h => by simp [find] at h, fun b b' o o' r h => by simp [find] at h, fun b o r h => by simp [find] at h, fun b o r k h => by simp [find] at h, fun b o h => by simp [find] at h⟩,
    Below.refl _ _, Nat.le_refl _, fun _ _ h => h, fun _ _ _ h => h⟩
  have hsim := start_sim (gs := fun _ _ => False) (D0 := fun _ => True) (n0 := 0) (keep := fun _ _ => False) (nx := 0) (as := ps.map .pv) (vs := vs) (nt := c.ntmps) hcore (fun b h => h.elim) hglob (by rw [List.length_map]; exact hargs.1)
    (fun j x q hx hq => by
      rw [List.getElem?_map, Option.map_eq_some_iff] at hq
      obtain ⟨p, hp, rfl⟩ := hq
      exact .pv (hargs.2 j x p hx hp)) (fun _ _ h => h.elim) (fun b h => h.elim) (Nat.le_refl _) (fun _ _ h => h.elim) (by rw [List.length_map]; have := hf.np; omega) (by rw [List.length_map]; have := hf.np'; omega)
  have hE : EnvOk P G (envD G (OkC P G) ext tab tabI d) none w.heap.size w I Gh.top := ⟨(envD_ok hm hext htab htabI d).1, (envD_ok hm hext htab htabI d).2, (fun _ h => by cases h), fun b h e => by cases d <;> simp [envD] at e⟩
  refine wpIn_mono (aw_sound (ro := none) hE hm (fun _ => rfl) c.body code hf.code _ _ _ _ h hsim) fun e a w' he => ?_
  have fin : ∀ s, (match resAs G s c.res with | some vs => (match pub s.σ 8 (resPV vs) with | some (p, _) => p = r | none => False) | none => False) → SimT P G w.heap.size w I .top c.ntmps s a w' →
      LeavesInM Fence.wide 0 P fn a.tmps (CallPost w I [] r) a.defers .returning w' := by
    intro s hs ⟨_, _, I₁, ι, D, hx⟩
    split at hs
    · rename_i vs' hvs
      split at hs
      · rename_i p m hp
        subst hs
        obtain ⟨rs, m1, m2, m3⟩ := hx.dfs
        refine leaves_of (gh := Gh.top) hf.res hvs rs a.defers w' m1 m2 m3 hx fun w₂ v hx hrep => ?_
        obtain ⟨hs', hL⟩ := SimS.sealO hx.core.sims m
        have hpv := pub_rep (M := m) hx.core.sims 8 _ _ _ _ hp (fun b h => h) hrep
        refine ⟨sealI I₁ ι s.σ m, hx.core.below, fun a k h => .inl (hx.core.ext a k h), fun a k hlt h => ?_, fun nm => ⟨fun _ => none, ?_, .pv hpv⟩⟩
        · rcases h with h | ⟨b, o, _, hf, _, hr, _⟩
          · exact hx.core.old a k hlt h
          · have := hx.core.sims.ge b o a hf hr; omega
        · exact ⟨hs'.bnd, fun b o h => by simp [imp, upAll, find] at h, fun b b' o o' r h => by simp [imp, upAll, find] at h, fun b o r h => by simp [imp, upAll, find] at h, fun b o r k h => by simp [imp, upAll, find] at h, fun b o h => by simp [imp, upAll, find] at h⟩
      · exact hs.elim
    · exact hs.elim
  cases e with
  | normal => obtain ⟨s, hq, hs⟩ := he; exact fin s hq hs
  | ret => obtain ⟨s, hq, hs⟩ := he; exact fin s hq hs
  | exit i => obtain ⟨s, hq, hs⟩ := he; exact hq.elim
  | goto l => exact he.elim
  | panic ch => exact he.elim
  | outgrown => exact he.elim
/-- A function that hands out one slice of its own. -/
theorem ok_of_fnO {P : Program} {G : Gl} {g : Nat} {c : RFn} {ps : List PV} {es : Nat} {rows : List (List PV)} (hm : P.follows .mixedOrders = true) (hk : chkFn P g c = true) {ext : Nat → Option RunI} (hext : InlOk P G fun g => (ext g).map extH) {tab tabI : Nat → Option RFn} (htab : ∀ g c, tab g = some c → chkFn P g c = true) (htabI : ∀ g c, tabI g = some c → chkItr P g c = true) {d : Nat}
    (hl : ps.length = c.nparams) (h : fnO G (OkC P G) ext tab tabI d c ps es rows) : OkC P G g ps [(0, 0)] (.sl es rows) := by
  obtain ⟨fn, code, hf'⟩ := chkFn_spec hk
  intro w I vs hbnd hglob hargs
  refine ⟨hf'.enter vs, callsIn_of_wp_marks hf'.func hf'.body trivial ?_⟩
  simp only [fnO, argsK_eq] at h
  rw [hf'.nt]
  have hcore : Core w.heap.size w I w I (fun _ => none) [] (fun _ => False) := ⟨⟨hbnd, fun b o h => by simp [find] at h, fun b b' o o' r h => by simp [find] at h, fun b o r h => by simp [find] at h, fun b o r k h => by simp [find] at h, fun b o h => by simp [find] at h⟩,
    Below.refl _ _, Nat.le_refl _, fun _ _ h => h, fun _ _ _ h => h⟩
  have hsim := start_sim (gs := fun _ _ => False) (D0 := fun _ => True) (n0 := 0) (keep := fun _ _ => False) (nx := 0) (as := ps.map .pv) (vs := vs) (nt := c.ntmps) hcore (fun b h => h.elim) hglob (by rw [List.length_map]; exact hargs.1)
    (fun j x q hx hq => by
      rw [List.getElem?_map, Option.map_eq_some_iff] at hq
      obtain ⟨p, hp, rfl⟩ := hq
      exact .pv (hargs.2 j x p hx hp)) (fun _ _ h => h.elim) (fun b h => h.elim) (Nat.le_refl _) (fun _ _ h => h.elim) (by rw [List.length_map]; have := hf'.np; omega) (by rw [List.length_map]; have := hf'.np'; omega)
  have hE : EnvOk P G (envD G (OkC P G) ext tab tabI d) none w.heap.size w I Gh.top := ⟨(envD_ok hm hext htab htabI d).1, (envD_ok hm hext htab htabI d).2, (fun _ h => by cases h), fun b h e => by cases d <;> simp [envD] at e⟩
  refine wpIn_mono (aw_sound (ro := none) hE hm (fun _ => rfl) c.body code hf'.code _ _ _ _ h hsim) fun e a w' he => ?_
  have fin : ∀ s, (∃ b m, resAs G s c.res = some [.own b 0 rows.length] ∧ outRows s.σ b = some (es, rows, m)) → SimT P G w.heap.size w I .top c.ntmps s a w' →
      LeavesInM Fence.wide 0 P fn a.tmps (CallPost w I [(0, 0)] (.sl es rows)) a.defers .returning w' := by
    intro s ⟨b, m, hvs, hout⟩ ⟨_, _, I₁, ι, D, hx⟩
    obtain ⟨rs, m1, m2, m3⟩ := hx.dfs
    refine leaves_of (gh := Gh.top) hf'.res hvs rs a.defers w' m1 m2 m3 hx fun w₂ v hx hrep => ?_
    refine ⟨sealI I₁ ι s.σ m, hx.core.below, fun a k h => .inl (hx.core.ext a k h), fun a k hlt h => ?_, fun nm => ⟨_, out_rep hx.core.sims hout hrep nm⟩⟩
    rcases h with h | ⟨b, o, _, hf, _, hr, _⟩
    · exact hx.core.old a k hlt h
    · have := hx.core.sims.ge b o a hf hr; omega
  cases e with
  | normal => obtain ⟨s, hq, hs⟩ := he; exact fin s hq hs
  | ret => obtain ⟨s, hq, hs⟩ := he; exact fin s hq hs
  | exit i => obtain ⟨s, hq, hs⟩ := he; exact hq.elim
  | goto l => exact he.elim
  | panic ch => exact he.elim
  | outgrown => exact he.elim

/-- The end of a function that hands out one slice of its own, and a number. -/
def retO2 (G : Gl) (rs : List RRes) (es : Nat) (rows : List (List PV)) (kd : IntKind) (nn : Int) (e : Ex) (st : St) : Prop :=
  match e with
  | .exit _ => False
  | _ => ∃ b m, resAs G st rs = some [.own b 0 rows.length, .pv (.int kd nn)] ∧ outRows st.σ b = some (es, rows, m)

def fnO2 (G : Gl) (Ok : Nat → List PV → Own → PV → Prop) (ext : Nat → Option RunI) (tab tabI : Nat → Option RFn) (d : Nat) (f : RFn) (args : List PV) (es : Nat) (rows : List (List PV)) (kd : IntKind) (nn : Int) : Prop :=
  argsK 0 args .nil fun tm => aw G Ok f.body true (envD G Ok ext tab tabI d) (retO2 G f.res es rows kd nn) { tm := tm, σ := [], nx := 0, nt := f.ntmps }

/-- A function that hands out one slice of its own, and a number with it. -/
theorem ok_of_fnO2 {P : Program} {G : Gl} {g : Nat} {c : RFn} {ps : List PV} {es : Nat} {rows : List (List PV)} {kd : IntKind} {nn : Int} (hm : P.follows .mixedOrders = true) (hk : chkFn P g c = true) {ext : Nat → Option RunI} (hext : InlOk P G fun g => (ext g).map extH) {tab tabI : Nat → Option RFn} (htab : ∀ g c, tab g = some c → chkFn P g c = true) (htabI : ∀ g c, tabI g = some c → chkItr P g c = true) {d : Nat}
    (hl : ps.length = c.nparams) (h : fnO2 G (OkC P G) ext tab tabI d c ps es rows kd nn) : OkC P G g ps [(0, 0)] (.tup [.sl es rows, .int kd nn]) := by
  obtain ⟨fn, code, hf'⟩ := chkFn_spec hk
  intro w I vs hbnd hglob hargs
  refine ⟨hf'.enter vs, callsIn_of_wp_marks hf'.func hf'.body trivial ?_⟩
  simp only [fnO2, argsK_eq] at h
  rw [hf'.nt]
  have hcore : Core w.heap.size w I w I (fun _ => none) [] (fun _ => False) := ⟨⟨hbnd, fun b o h => by simp [find] at h, fun b b' o o' r h => by simp [find] at h, fun b o r h => by simp [find] at h, fun b o r k h => by simp [find] at h, fun b o h => by simp [find] at h⟩,
    Below.refl _ _, Nat.le_refl _, fun _ _ h => h, fun _ _ _ h => h⟩
  have hsim := start_sim (gs := fun _ _ => False) (D0 := fun _ => True) (n0 := 0) (keep := fun _ _ => False) (nx := 0) (as := ps.map .pv) (vs := vs) (nt := c.ntmps) hcore (fun b h => h.elim) hglob (by rw [List.length_map]; exact hargs.1)
    (fun j x q hx hq => by
      rw [List.getElem?_map, Option.map_eq_some_iff] at hq
      obtain ⟨p, hp, rfl⟩ := hq
      exact .pv (hargs.2 j x p hx hp)) (fun _ _ h => h.elim) (fun b h => h.elim) (Nat.le_refl _) (fun _ _ h => h.elim) (by rw [List.length_map]; have := hf'.np; omega) (by rw [List.length_map]; have := hf'.np'; omega)
  have hE : EnvOk P G (envD G (OkC P G) ext tab tabI d) none w.heap.size w I Gh.top := ⟨(envD_ok hm hext htab htabI d).1, (envD_ok hm hext htab htabI d).2, (fun _ h => by cases h), fun b h e => by cases d <;> simp [envD] at e⟩
  refine wpIn_mono (aw_sound (ro := none) hE hm (fun _ => rfl) c.body code hf'.code _ _ _ _ h hsim) fun e a w' he => ?_
  have fin : ∀ s, (∃ b m, resAs G s c.res = some [.own b 0 rows.length, .pv (.int kd nn)] ∧ outRows s.σ b = some (es, rows, m)) → SimT P G w.heap.size w I .top c.ntmps s a w' →
      LeavesInM Fence.wide 0 P fn a.tmps (CallPost w I [(0, 0)] (.tup [.sl es rows, .int kd nn])) a.defers .returning w' := by
    intro s ⟨b, m, hvs, hout⟩ ⟨_, _, I₁, ι, D, hx⟩
    obtain ⟨rs, m1, m2, m3⟩ := hx.dfs
    refine leaves_of (gh := Gh.top) hf'.res hvs rs a.defers w' m1 m2 m3 hx fun w₂ v hx hrep => ?_
    refine ⟨sealI I₁ ι s.σ m, hx.core.below, fun a k h => .inl (hx.core.ext a k h), fun a k hlt h => ?_, fun nm => ?_⟩
    · rcases h with h | ⟨b, o, _, hf, _, hr, _⟩
      · exact hx.core.old a k hlt h
      · have := hx.core.sims.ge b o a hf hr; omega
    · cases hrep with
      | tup hl hh =>
        rename_i cs
        have h0 : ∃ x, cs[0]? = some x := ⟨_, Array.getElem?_eq_getElem (by simp at hl; omega)⟩
        obtain ⟨x0, hx0⟩ := h0
        obtain ⟨o1, o2⟩ := out_rep hx.core.sims hout (hh 0 x0 _ hx0 rfl) nm
        refine ⟨_, o1, .tup (by simpa using hl) fun j x q hxj hq => ?_⟩
        match j, hq with
        | 0, hq => cases hq; rw [hx0] at hxj; cases hxj; exact o2
        | 1, hq => cases hq; have := inv_int (hh 1 x _ hxj rfl); subst this; exact .pv (.int _ _)
  cases e with
  | normal => obtain ⟨s, hq, hs⟩ := he; exact fin s hq hs
  | ret => obtain ⟨s, hq, hs⟩ := he; exact fin s hq hs
  | exit i => obtain ⟨s, hq, hs⟩ := he; exact hq.elim
  | goto l => exact he.elim
  | panic ch => exact he.elim
  | outgrown => exact he.elim
end Go.Ab

/- A row's end from 'Below'. Under: nothing. -/
namespace Go.Ab
open Go.RowKit Go.ChangeShapes Go.WideShapes

theorem post_of_below {H : Type} {enc : TypeId × Value → H} {P : Program} {f : Func} {s : ChangeSpec} {apart fresh handsOn again : Bool} {W W' : World} {args : Array Value} {v : Value} {ds gs : List (DataW H)} {before pa pv : List MemPlace}
    (hW : DataW.Whole enc P f.params.toList s.vars apart W args.toList ds gs before)
    (hres : ∀ (b : Nat) (sp : Nat → Bool) (hd : Bool), DataW.TrodAll enc P W' b sp hd f.resultTypes.toList (v.resultList f.resultTypes.size) (s.fn H (ds ++ gs)).results [])
    (hargs : ∀ sp : Nat → Bool, (∀ p ∈ before, sp p.block = true) → DataW.TrodAll enc P W' 0 sp true f.params.toList args.toList (s.fn H (ds ++ gs)).args pa)
    (hvars : ∀ sp : Nat → Bool, (∀ p ∈ before, sp p.block = true) → DataW.TrodVars enc P W' sp s.vars (s.fn H (ds ++ gs)).vars pv)
    (hps : before = pa ++ pv) (hb : Below W.heap.size W W')
    (hok : ∀ (j : Nat) (t : TypeId) (r : Value), f.resultTypes[j]? = some t → (v.resultList f.resultTypes.size)[j]? = some r → Value.okWide P W' .any 0 t r) :
    s.post enc P f apart fresh handsOn again W args v W' := by
  have hold : ∀ p ∈ before, (fun b => decide (b < W.heap.size)) p.block = true := fun p hp => by simpa using hW.lt p hp
  have hlt := hW.lt
  refine ⟨ds, gs, before, [], pa, pv, hW, hres _ _ _, hargs _ hold, hvars _ hold, World.keptBut_mono (fun p hp => ⟨hp, ?_⟩) (hb.frame (· ∈ before)), fun _ => ?_⟩
  · rw [hps, List.mem_append] at hp
    exact Or.inr hp
  · obtain ⟨_, _, _, _, _, hz, hn⟩ := hW
    refine ⟨hok, _, _, ([] ++ pa) ++ pv, ⟨[] ++ pa, pv, trodAll_append (hargs _ (fun _ _ => rfl)) (hres _ _ _), hvars _ (fun _ _ => rfl), rfl, ?_, ?_⟩, ?_⟩
    · intro b off hp
      have hp' : MemPlace.cell b off ∈ before := by rw [hps]; simpa using hp
      have hl : b < W.heap.size := hlt _ hp'
      rw [hb.frozen hl]
      exact hz b off hp'
    · intro ha
      have := hn ha
      rw [hps] at this
      simpa using this
    · intro p hp _
      rw [hps]
      simpa using hp
end Go.Ab

/- Quick forms of a few operations. Under: nothing. -/
namespace Go.Ab

def ikCode : IntKind → Nat
  | .i8 => 0 | .i16 => 1 | .i32 => 2 | .i64 => 3 | .u8 => 4 | .u16 => 5 | .u32 => 6 | .u64 => 7
def ikEq (k k' : IntKind) : Bool := Nat.beq (ikCode k) (ikCode k')
theorem ikEq_eq (k k' : IntKind) : ikEq k k' = decide (k = k') := by cases k <;> cases k' <;> rfl

def wrapE (k : IntKind) (n : Int) : Int := match k with
  | .i64 => (match n with
    | .ofNat m => (match Nat.blt m 9223372036854775808 with | true => .ofNat m | false => IntKind.wrap .i64 (.ofNat m))
    | n => IntKind.wrap .i64 n)
  | k => IntKind.wrap k n

theorem wrapE_eq (k : IntKind) (n : Int) : wrapE k n = k.wrap n := by
  cases k <;> try rfl
  cases n with
  | negSucc m => rfl
  | ofNat m =>
    simp only [wrapE]
    cases h : Nat.blt m 9223372036854775808 with
    | false => rfl
    | true =>
      have hm : m < 9223372036854775808 := blt_iff.1 h
      rw [IntKind.wrap_i64]
      simp only [Int.ofNat_eq_natCast]
      omega

def ltE : Int → Int → Bool
  | .ofNat m, .ofNat n => Nat.blt m n
  | .ofNat _, .negSucc _ => false
  | .negSucc _, .ofNat _ => true
  | .negSucc m, .negSucc n => Nat.blt n m

theorem ltE_iff (a b : Int) : ltE a b = true ↔ a < b := by
  cases a <;> cases b <;> simp only [ltE, blt_iff] <;> first | omega | skip
  all_goals (simp; try omega)

theorem ltE_eq (a b : Int) : ltE a b = decide (a < b) := by
  rw [Bool.eq_iff_iff, ltE_iff]; simp

def eqE : Int → Int → Bool
  | .ofNat m, .ofNat n => Nat.beq m n
  | .negSucc m, .negSucc n => Nat.beq m n
  | _, _ => false

theorem eqE_eq (a b : Int) : eqE a b = (a == b) := by
  rw [Bool.eq_iff_iff]
  cases a <;> cases b <;> simp [eqE, Nat.beq_eq] <;> omega

def opInt (op : BinOp) (k : IntKind) (a b : Int) : Option AV := match op with
  | .add => some (.pv (.int k (wrapE k (a + b))))
  | .sub => some (.pv (.int k (wrapE k (a - b))))
  | .mul => some (.pv (.int k (wrapE k (a * b))))
  | .quo => if b = 0 then none else some (.pv (.int k (wrapE k (a.tdiv b))))
  | .rem => if b = 0 then none else some (.pv (.int k (a.tmod b)))
  | .eql => some (.pv (.bool (eqE a b)))
  | .neq => some (.pv (.bool (!(eqE a b))))
  | .lss => some (.pv (.bool (ltE a b)))
  | .leq => some (.pv (.bool (!(ltE b a))))
  | .gtr => some (.pv (.bool (ltE b a)))
  | .geq => some (.pv (.bool (!(ltE a b))))
  | _ => none

def binopE (op : BinOp) (x y : AV) : Option AV := match x with
  | .pv p => (match p with
    | .int k a => (match y with
      | .pv q => (match q with
        | .int k' b => (match ikEq k k' with | true => opInt op k a b | false => none)
        | _ => none)
      | _ => none)
    | _ => binop op x y)
  | _ => binop op x y

theorem binopE_eq (op : BinOp) (x y : AV) : binopE op x y = binop op x y := by
  cases x with
  | pv p =>
    cases p with
    | int k a =>
      cases y with
      | pv q =>
        cases q with
        | int k' b =>
          simp only [binopE, binop, ikEq_eq]
          by_cases h : k = k'
          · simp only [h, decide_true, if_true]
            cases op <;> simp only [opInt, wrapE_eq, eqE_eq, ltE_eq] <;> first | rfl | skip
            · congr 3; rw [Bool.eq_iff_iff]; simp
            · congr 3; rw [Bool.eq_iff_iff]; simp
          · simp only [h, decide_false, if_false]
        | _ => cases op <;> rfl
      | _ => cases op <;> rfl
    | _ => rfl
  | _ => rfl

def scalarE : Nat → AV → AV → Option Bool
  | 0, .pv (.int k a), .pv (.int k' b) => (match ikEq k k' with | true => some (eqE a b) | false => none)
  | k, a, b => scalarEq k a b

theorem scalarE_eq (n : Nat) (a b : AV) : scalarE n a b = scalarEq n a b := by
  unfold scalarE
  split
  · rename_i k a k' b
    simp only [scalarEq, ikEq_eq, eqE_eq]
    by_cases h : k = k' <;> simp [h]
  · rfl
end Go.Ab

/- One step, in small pieces. Under: nothing. -/
namespace Go.Ab

def cellsEqE : List Nat → List AV → List AV → Option Bool
  | [], [], [] => some true
  | k :: ks, a :: l, b :: m => match scalarE k a b with
    | some x => match cellsEqE ks l m with | some y => some (x && y) | none => none
    | none => none
  | _, _, _ => none

theorem cellsEqE_eq : ∀ (ks : List Nat) (l m : List AV), cellsEqE ks l m = cellsEq ks l m
  | [], [], [] => rfl
  | k :: ks, a :: l, b :: m => by simp only [cellsEqE, cellsEq, scalarE_eq, cellsEqE_eq ks l m]; rfl
  | [], [], _ :: _ => rfl
  | [], _ :: _, _ => rfl
  | _ :: _, [], _ => rfl
  | _ :: _, _ :: _, [] => rfl

def st_mv (_σ : Store) (_nm : Nat) (ev : RA → AV) (x : RA) : Option Eff :=
  Eff.of (ev x)

def st_pick (_σ : Store) (_nm : Nat) (ev : RA → AV) (c : RA) (a : RA) (b : RA) : Option Eff :=
  match ev c with
    | .pv (.bool x) => Eff.of (match x with | true => ev a | false => ev b)
    | _ => none

def st_alloc (_σ : Store) (nm : Nat) (_ev : RA → AV) (zero : List AV) : Option Eff :=
  some { v := .ptr nm 0 0, up := [(nm, some (.box zero.length [zero] false))] }

def st_box (_σ : Store) (nm : Nat) (ev : RA → AV) (n : Nat) (x : RA) : Option Eff :=
  if (ev x).cells.length = n ∧ allCells (ev x).cells = true then some { v := .ptr nm 0 0, up := [(nm, some (.box n [(ev x).cells] false))] } else none

def st_load (σ : Store) (_nm : Nat) (ev : RA → AV) (agg : Bool) (n : Nat) (x : RA) : Option Eff :=
  match ev x with
    | .ptr b i j => match find σ b with
      | some o => match o.row? i with
        | some row => if j + n ≤ row.length then (match mkAgg agg ((row.drop j).take n) with | some v => some { v := v, rd := [b] } | none => none) else none
        | none => none
      | none => none
    | .pv (.ref cs) => if n ≤ cs.length then (match mkAgg agg ((cs.take n).map .pv) with | some v => some { v := v } | none => none) else none
    | _ => none

def st_store (σ : Store) (_nm : Nat) (ev : RA → AV) (n : Nat) (a : RA) (v : RA) : Option Eff :=
  match ev a with
    | .ptr b i j => match find σ b with
      | some (.box es rows false) => match rows[i]? with
        | some row => if (ev v).cells.length = n ∧ j + n ≤ row.length ∧ allCells (ev v).cells = true then
            some { v := .undef, rd := [b], up := [(b, some (.box es (rows.set i (setRange row j (ev v).cells)) false))] } else none
        | none => none
      | some (.arr es rows false) => match rows[i]? with
        | some row => match pures? (ev v).cells with
          | some ps => if (ev v).cells.length = n ∧ j + n ≤ row.length ∧ allCells (ev v).cells = true then
              some { v := .undef, rd := [b], up := [(b, some (.arr es (rows.set i (row.take j ++ ps ++ row.drop (j + ps.length))) false))] } else none
          | none => if (ev v).cells.length = n ∧ j + n ≤ row.length ∧ allCells (ev v).cells = true then
              some { v := .undef, rd := [b], up := [(b, some (.box es ((rows.map (·.map AV.pv)).set i (setRange (row.map .pv) j (ev v).cells)) false))] } else none
        | none => none
      | _ => none
    | _ => none

def st_bin (_σ : Store) (_nm : Nat) (ev : RA → AV) (op : BinOp) (x : RA) (y : RA) : Option Eff :=
  match binopE op (ev x) (ev y) with | some v => Eff.of v | none => none

def st_eqs (_σ : Store) (_nm : Nat) (ev : RA → AV) (neq : Bool) (kinds : List Nat) (x : RA) (y : RA) : Option Eff :=
  match cellsEqE kinds (ev x).cells (ev y).cells with
    | some b => if (ev x).isAggV = true ∧ (ev y).isAggV = true then Eff.of (.pv (.bool (match neq with | true => !b | false => b))) else none
    | none => none

def st_eqb (_σ : Store) (_nm : Nat) (ev : RA → AV) (neq : Bool) (x : RA) (y : RA) : Option Eff :=
  match ev x, ev y with
    | .pv (.bool a), .pv (.bool b) => Eff.of (.pv (.bool (match neq with | true => !(a == b) | false => a == b)))
    | _, _ => none

def st_isnil (σ : Store) (_nm : Nat) (ev : RA → AV) (neq : Bool) (x : RA) : Option Eff :=
  match (ev x).e with
    | .emp _ => Eff.of (.pv (.bool (!neq)))
    | .fsl _ rows => (match rows with | [] => Eff.of .anyB | _ :: _ => Eff.of (.pv (.bool neq)))
    | .pv (.sl _ rows) => (match rows with | [] => Eff.of .anyB | _ :: _ => Eff.of (.pv (.bool neq)))
    | .own b _ n => match find σ b with
      | some _ => (match n with | 0 => some { v := .anyB, rd := [b] } | _ + 1 => some { v := .pv (.bool neq), rd := [b] })
      | none => none
    | _ => none

def st_not (_σ : Store) (_nm : Nat) (ev : RA → AV) (x : RA) : Option Eff :=
  match ev x with | .pv (.bool b) => Eff.of (.pv (.bool (!b))) | _ => none

def st_neg (_σ : Store) (_nm : Nat) (ev : RA → AV) (x : RA) : Option Eff :=
  match ev x with | .pv (.int k n) => Eff.of (.pv (.int k (k.wrap (0 - n)))) | _ => none

def st_conv (_σ : Store) (_nm : Nat) (ev : RA → AV) (k : IntKind) (x : RA) : Option Eff :=
  match ev x with | .pv (.int _ n) => Eff.of (.pv (.int k (k.wrap n))) | _ => none

def st_same (_σ : Store) (_nm : Nat) (ev : RA → AV) (x : RA) : Option Eff :=
  match ev x with | .pv (.str s) => Eff.of (.pv (.str s)) | _ => none

def st_s2b (_σ : Store) (nm : Nat) (ev : RA → AV) (x : RA) : Option Eff :=
  match ev x with
    | .pv (.str s) => some { v := .own nm 0 s.length, up := [(nm, some (.arr 1 (s.map fun b => [PV.int .u8 b.toNat]) false))] }
    | _ => none

def st_b2s (σ : Store) (_nm : Nat) (ev : RA → AV) (x : RA) : Option Eff :=
  match prowsOf σ 1 (ev x) with
    | some (rows, rd) => match bytesOfRows rows with | some s => some { v := .pv (.str s), rd := rd } | none => none
    | none => none

def st_mkf (_σ : Store) (_nm : Nat) (ev : RA → AV) (fn : Fn) (first : List RA) (caps : List RA) : Option Eff :=
  Eff.of (.func fn (first.map ev) (caps.map ev))

def st_mkmap (_σ : Store) (nm : Nat) (_ev : RA → AV)  : Option Eff :=
  some { v := .mref nm, up := [(nm, some (.map []))] }

def st_insert (σ : Store) (_nm : Nat) (ev : RA → AV) (m : RA) (k : RA) (v : RA) : Option Eff :=
  match ev m, ev k with
    | .mref b, .pv (.str s) => match find σ b with
      | some (.map ents) => match lookupE s ents with
        | none => some { v := .undef, rd := [b], up := [(b, some (.map (insK s (ev v) ents)))] }
        | some _ => none
      | _ => none
    | _, _ => none

def st_lookup (σ : Store) (_nm : Nat) (ev : RA → AV) (m : RA) (k : RA) (zero : AV) : Option Eff :=
  match ev m, ev k with
    | .mref b, .pv (.str s) => match find σ b with
      | some (.map ents) => some { v := match lookupE s ents with | some v => .tup [v, .pv (.bool true)] | none => .tup [zero, .pv (.bool false)], rd := [b] }
      | _ => none
    | _, _ => none

def st_clear (σ : Store) (_nm : Nat) (ev : RA → AV) (es : Nat) (zero : List PV) (x : RA) : Option Eff :=
  match ev x with
    | .own b i n => match find σ b with
      | some (.arr es' rows false) => if es' = es ∧ i + n ≤ rows.length ∧ 0 < n ∧ zero.length = es then some { v := .tup [], rd := [b], up := [(b, some (.arr es (rows.take i ++ List.replicate n zero ++ rows.drop (i + n)) false))] } else none
      | _ => none
    | _ => none

def st_mksl (_σ : Store) (nm : Nat) (ev : RA → AV) (es : Nat) (bytes : Nat) (zero : List PV) (n : RA) : Option Eff :=
  match idxOf (ev n) with
    | some k => if 0 ≤ k ∧ k * bytes ≤ 2 ^ 40 ∧ zero.length = es ∧ 0 < bytes then some { v := .own nm 0 k.toNat, up := [(nm, some (.arr es (List.replicate k.toNat zero) false))] } else none
    | none => none

def st_slice (σ : Store) (_nm : Nat) (ev : RA → AV) (es : Nat) (x : RA) (lo : Option RA) (hi : Option RA) (mx : Option RA) : Option Eff :=
  match (ev x).e with
    | .own b i n => match find σ b with
      | some o => match optIdx ev 0 lo, optIdx ev n hi, optIdx ev ((o.len : Int) - i) mx with
        | some l, some h, some m => if 0 ≤ l ∧ l ≤ h ∧ h ≤ m ∧ (mx.isNone = true ∨ m ≤ n) ∧ o.es = es ∧ (mx.isNone = true ∨ (o.len : Int) ≤ i + m) then some { v := .own b (i + l.toNat) (h - l).toNat, rd := [b] } else none
        | _, _, _ => none
      | none => none
    | .pv (.sl e rows) => if e = es then step.sliceP ev es rows lo hi mx else none
    | .fsl e rows => if e = es then step.sliceP ev es rows lo hi mx else none
    | .emp e => match optIdx ev 0 lo, optIdx ev 0 hi, optIdx ev 0 mx with
      | some l, some h, some m => if l = 0 ∧ h = 0 ∧ m = 0 then Eff.of (.emp e) else none
      | _, _, _ => none
    | _ => none

def st_sslice (_σ : Store) (_nm : Nat) (ev : RA → AV) (x : RA) (lo : Option RA) (hi : Option RA) : Option Eff :=
  match ev x with
    | .pv (.str s) => match optIdx ev 0 lo, optIdx ev s.length hi with
      | some l, some h => if 0 ≤ l ∧ l ≤ h ∧ h ≤ s.length then Eff.of (.pv (.str ((s.take h.toNat).drop l.toNat))) else none
      | _, _ => none
    | _ => none

def st_faddr (σ : Store) (_nm : Nat) (ev : RA → AV) (x : RA) (off : Nat) : Option Eff :=
  match ev x with
    | .ptr b i j => match find σ b with | some _ => some { v := .ptr b i (j + off), rd := [b] } | none => none
    | .pv (.ref cs) => Eff.of (.pv (.ref (cs.drop off)))
    | _ => none

def st_field (_σ : Store) (_nm : Nat) (ev : RA → AV) (agg : Bool) (off : Nat) (n : Nat) (x : RA) : Option Eff :=
  if off + n ≤ (ev x).cells.length ∧ (ev x).isAggV = true then (match mkAgg agg (((ev x).cells.drop off).take n) with | some v => Eff.of v | none => none) else none

def st_iaddr (σ : Store) (_nm : Nat) (ev : RA → AV) (es : Nat) (x : RA) (i : RA) : Option Eff :=
  match idxOf (ev i) with
    | some k => match ev x with
      | .own b i n => match find σ b with
        | some o => if 0 ≤ k ∧ k < n ∧ o.es = es then some { v := .ptr b (i + k.toNat) 0, rd := [b] } else none
        | none => none
      | .pv (.sl e rows) => if e = es then step.iaddrP k rows else none
      | .fsl e rows => if e = es then step.iaddrP k rows else none
      | _ => none
    | none => none

def st_paddr (σ : Store) (_nm : Nat) (ev : RA → AV) (len : Nat) (es : Nat) (x : RA) (i : RA) : Option Eff :=
  match idxOf (ev i) with
    | some k => if 0 ≤ k ∧ k < len then (match ev x with
      | .ptr b r j => match find σ b with | some _ => some { v := .ptr b r (j + k.toNat * es), rd := [b] } | none => none
      | .pv (.ref cs) => Eff.of (.pv (.ref (cs.drop (k.toNat * es))))
      | _ => none) else none
    | none => none

def st_isnilf (_σ : Store) (_nm : Nat) (ev : RA → AV) (neq : Bool) (x : RA) : Option Eff :=
  match ev x with
    | .func _ _ _ => Eff.of (.pv (.bool neq))
    | .pv (.func _ _ _) => Eff.of (.pv (.bool neq))
    | .pv .nilFunc => Eff.of (.pv (.bool (!neq)))
    | _ => none

def st_index (_σ : Store) (_nm : Nat) (ev : RA → AV) (agg : Bool) (len : Nat) (es : Nat) (x : RA) (i : RA) : Option Eff :=
  match idxOf (ev i) with
    | some k => if 0 ≤ k ∧ k < len ∧ (ev x).cells.length = len * es ∧ (ev x).isAggV = true then (match mkAgg agg (((ev x).cells.drop (k.toNat * es)).take es) with | some v => Eff.of v | none => none) else none
    | none => none

def st_sindex (_σ : Store) (_nm : Nat) (ev : RA → AV) (x : RA) (i : RA) : Option Eff :=
  match ev x, idxOf (ev i) with
    | .pv (.str s), some k => if 0 ≤ k then (match s[k.toNat]? with | some b => Eff.of (.pv (.int .u8 b.toNat)) | none => none) else none
    | _, _ => none

def st_extract (_σ : Store) (_nm : Nat) (ev : RA → AV) (x : RA) (i : Nat) : Option Eff :=
  match ev x with
    | .tup vs => match vs[i]? with | some v => Eff.of v | none => none
    | .pv (.tup ps) => match ps[i]? with | some p => Eff.of (.pv p) | none => none
    | _ => none

def st_call (_σ : Store) (_nm : Nat) (_ev : RA → AV) (_u0 : RA) (_u1 : List RA) : Option Eff :=
  none

def st_slen (σ : Store) (_nm : Nat) (ev : RA → AV) (x : RA) : Option Eff :=
  match (ev x).e with
    | .own b _ n => match find σ b with | some _ => some { v := .pv (.int .i64 n), rd := [b] } | none => none
    | .pv (.sl _ rows) => Eff.of (.pv (.int .i64 rows.length))
    | .fsl _ rows => Eff.of (.pv (.int .i64 rows.length))
    | .emp _ => Eff.of (.pv (.int .i64 0))
    | _ => none

def st_strlen (_σ : Store) (_nm : Nat) (ev : RA → AV) (x : RA) : Option Eff :=
  match ev x with | .pv (.str s) => Eff.of (.pv (.int .i64 s.length)) | _ => none

def st_alen (_σ : Store) (_nm : Nat) (_ev : RA → AV) (n : Nat) : Option Eff :=
  Eff.of (.pv (.int .i64 n))

def st_append (σ : Store) (nm : Nat) (ev : RA → AV) (es : Nat) (bytes : Nat) (s : RA) (x : RA) : Option Eff :=
  match (ev s).e with
    | .emp _ => match rowsOf σ es (ev x) with
      | some (xs, rd) => if xs.length * bytes ≤ 2 ^ 40 then some { v := .own nm 0 xs.length, rd := rd, up := [(nm, some (mkObj es xs))] } else none
      | none => none
    | .fsl e rows => match prowsOf σ es (ev x) with
      | some (xs, rd) => if (rows.length + xs.length) * bytes ≤ 2 ^ 40 ∧ e = es then some { v := .pv (.sl es (rows ++ xs)), rd := rd } else none
      | none => none
    | .own b 0 n => match find σ b with
      | some (.arr es' rows sl) => if rows.length = n ∧ es' = es then (match prowsOf σ es (ev x) with
        | some (xs, rd) => if (n + xs.length) * bytes ≤ 2 ^ 40 then some { v := .own nm 0 (n + xs.length), rd := b :: rd, up := [(b, none), (nm, some (.arr es (rows ++ xs) sl))] } else none
        | none => match rowsOf σ es (ev x) with
          | some (xs, rd) => if (n + xs.length) * bytes ≤ 2 ^ 40 then some { v := .own nm 0 (n + xs.length), rd := b :: rd, up := [(b, none), (nm, some (.box es (rows.map (·.map AV.pv) ++ xs) sl))] } else none
          | none => none) else (match sl with
            | true => none
            | false => match prowsOf σ es (ev x) with
              | some (xs, rd) => if n + xs.length ≤ rows.length ∧ 0 < rows.length ∧ es' = es then some { v := .own b 0 (n + xs.length), rd := b :: rd, up := [(b, some (.arr es (rows.take n ++ xs ++ rows.drop (n + xs.length)) false))] } else none
              | none => none)
      | some (.box es' rows sl) => if rows.length = n ∧ es' = es then (match rowsOf σ es (ev x) with
        | some (xs, rd) => if (n + xs.length) * bytes ≤ 2 ^ 40 then some { v := .own nm 0 (n + xs.length), rd := b :: rd, up := [(b, none), (nm, some (.box es (rows ++ xs) sl))] } else none
        | none => none) else none
      | _ => none
    | _ => none

def st_copy (σ : Store) (_nm : Nat) (ev : RA → AV) (es : Nat) (d : RA) (s : RA) : Option Eff :=
  match ev d with
    | .own b i n => match find σ b with
      | some (.arr es' rows false) => if es' = es then (match prowsOf σ es (ev s) with
        | some (xs, rd) => if i + n ≤ rows.length then
            some { v := .pv (.int .i64 (min xs.length n : Nat)), rd := b :: rd, up := [(b, some (.arr es (rows.take i ++ xs.take (min xs.length n) ++ rows.drop (i + min xs.length n)) false))] } else none
        | none => none) else none
      | _ => none
    | _ => none

def st_mm (_σ : Store) (_nm : Nat) (ev : RA → AV) (isMax : Bool) (xs : List RA) : Option Eff :=
  match xs with
    | [] => none
    | x :: l => match mmF isMax ev (ev x) l with | some v => Eff.of v | none => none

def st_build (_σ : Store) (_nm : Nat) (ev : RA → AV) (zeros : List AV) (parts : List (Nat × Nat × RA)) : Option Eff :=
  match fillA zeros (parts.map fun (o, n, x) => (o, n, ev x)) with | some cs => Eff.of (.agg cs) | none => none

def st_bsl (_σ : Store) (nm : Nat) (ev : RA → AV) (es : Nat) (n : Nat) (zeros : List AV) (parts : List (Nat × RA)) : Option Eff :=
  match fillA (List.replicate n zeros).flatten (parts.map fun (i, x) => (i * es, es, ev x)) with
    | some cs => if allCells cs = true then some { v := .own nm 0 n, up := [(nm, some (mkObj es (step.chop es n cs)))] } else none
    | none => none

def stepE (σ : Store) (nm : Nat) (ev : RA → AV) : ROp → Option Eff
  | .mv x => st_mv σ nm ev x
  | .pick c a b => st_pick σ nm ev c a b
  | .alloc zero => st_alloc σ nm ev zero
  | .box n x => st_box σ nm ev n x
  | .load agg n x => st_load σ nm ev agg n x
  | .store n a v => st_store σ nm ev n a v
  | .bin op x y => st_bin σ nm ev op x y
  | .eqs neq kinds x y => st_eqs σ nm ev neq kinds x y
  | .eqb neq x y => st_eqb σ nm ev neq x y
  | .isnil neq x => st_isnil σ nm ev neq x
  | .not x => st_not σ nm ev x
  | .neg x => st_neg σ nm ev x
  | .conv k x => st_conv σ nm ev k x
  | .same x => st_same σ nm ev x
  | .s2b x => st_s2b σ nm ev x
  | .b2s x => st_b2s σ nm ev x
  | .mkf fn first caps => st_mkf σ nm ev fn first caps
  | .mkmap  => st_mkmap σ nm ev 
  | .insert m k v => st_insert σ nm ev m k v
  | .lookup m k zero => st_lookup σ nm ev m k zero
  | .clear es zero x => st_clear σ nm ev es zero x
  | .mksl es bytes zero n => st_mksl σ nm ev es bytes zero n
  | .slice es x lo hi mx => st_slice σ nm ev es x lo hi mx
  | .sslice x lo hi => st_sslice σ nm ev x lo hi
  | .faddr x off => st_faddr σ nm ev x off
  | .field agg off n x => st_field σ nm ev agg off n x
  | .iaddr es x i => st_iaddr σ nm ev es x i
  | .paddr len es x i => st_paddr σ nm ev len es x i
  | .isnilf neq x => st_isnilf σ nm ev neq x
  | .index agg len es x i => st_index σ nm ev agg len es x i
  | .sindex x i => st_sindex σ nm ev x i
  | .extract x i => st_extract σ nm ev x i
  | .call _u0 _u1 => st_call σ nm ev _u0 _u1
  | .slen x => st_slen σ nm ev x
  | .strlen x => st_strlen σ nm ev x
  | .alen n => st_alen σ nm ev n
  | .append es bytes s x => st_append σ nm ev es bytes s x
  | .copy es d s => st_copy σ nm ev es d s
  | .mm isMax xs => st_mm σ nm ev isMax xs
  | .build zeros parts => st_build σ nm ev zeros parts
  | .bsl es n zeros parts => st_bsl σ nm ev es n zeros parts

def ROp.isCall : ROp → Bool
  | .call _ _ => true
  | _ => false

theorem stepE_eq (σ : Store) (nm : Nat) (ev : RA → AV) (op : ROp) : stepE σ nm ev op = step σ nm ev op := by
  cases op <;> first | rfl | (simp only [stepE, st_bin, binopE_eq]; rfl) | (simp only [stepE, st_eqs, cellsEqE_eq]; rfl)

end Go.Ab

/- Temporaries, by their ways. Under: nothing. -/
namespace Go.Ab

inductive Way where
  | here
  | lft (p : Way)
  | rgt (p : Way)

def way : Nat → Nat → Way
  | 0, _ => .here
  | d + 1, n => match n % 2 with
    | 0 => .lft (way d (n / 2))
    | _ => .rgt (way d (n / 2))

def leafV (t : T) : AV := match t with | .leaf v => v | _ => .undef

noncomputable def getP (p : Way) : T → AV := Way.rec (motive := fun _ => T → AV) (fun t => leafV t) (fun _ ih t => ih t.l) (fun _ ih t => ih t.r) p

noncomputable def setP (v : AV) (p : Way) : T → T := Way.rec (motive := fun _ => T → T) (fun _ => .leaf v) (fun _ ih t => .node (ih t.l) t.r) (fun _ ih t => .node t.l (ih t.r)) p

theorem getP_eq : ∀ (d : Nat) (t : T) (n : Nat), getP (way d n) t = T.get d t n
  | 0, t, n => by cases t <;> rfl
  | d + 1, t, n => by
    have hl : ∀ (t : T), T.get (d + 1) t n = match n % 2 with | 0 => T.get d t.l (n / 2) | _ => T.get d t.r (n / 2) := by
      intro t
      cases t with
      | node l r => rfl
      | nil => simp only [T.l, T.r, T.get]; split <;> (cases d <;> rfl)
      | leaf x => simp only [T.l, T.r, T.get]; split <;> (cases d <;> rfl)
    rw [hl]
    simp only [way]
    rcases Nat.mod_two_eq_zero_or_one n with h | h <;> simp only [h]
    · exact getP_eq d _ _
    · exact getP_eq d _ _

theorem setP_eq (v : AV) : ∀ (d : Nat) (t : T) (n : Nat), setP v (way d n) t = T.set d t n v
  | 0, t, n => rfl
  | d + 1, t, n => by
    simp only [way, T.set]
    rcases Nat.mod_two_eq_zero_or_one n with h | h <;> simp only [h]
    · show T.node (setP v (way d (n / 2)) t.l) t.r = _
      rw [setP_eq v d]
    · show T.node t.l (setP v (way d (n / 2)) t.r) = _
      rw [setP_eq v d]

noncomputable def tget10 (t : T) (n : Nat) : AV := getP (way 10 n) t
noncomputable def tset10 (t : T) (n : Nat) (v : AV) : T := setP v (way 10 n) t
theorem tget_eq (t : T) (n : Nat) : tget10 t n = T.get tdepth t n := getP_eq 10 t n
theorem tset_eq (t : T) (n : Nat) (v : AV) : tset10 t n v = T.set tdepth t n v := setP_eq v 10 t n

/-- What an operand holds. -/
noncomputable def evE (G : Gl) (st : St) : RA → AV
  | .t n => tget10 st.tm n
  | .c v => v
  | .f g => .func (.func g) [] []
  | .g i => match G i with | some cs => .pv (.ref cs) | none => .undef

theorem evE_eq (G : Gl) (st : St) : evE G st = St.ev G st := by
  funext r
  cases r with
  | t n => exact tget_eq _ _
  | c v => rfl
  | f g => rfl
  | g i => rfl
end Go.Ab
