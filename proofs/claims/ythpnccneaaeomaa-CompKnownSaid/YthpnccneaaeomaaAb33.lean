/- The own code's weakest precondition is the model's. Under: nothing. -/
import Derived.Test.YthpnccneaaeomaaAb32
import Derived.Control
namespace Go.Ab
open Go.RowKit

section scope
variable {P : Program} {b : Frame} {a : Act} {k : List Item} {cs : List Frame} {w : World} {Q : Exit → Act → World → Prop} {F : Fence} {n : Nat}

theorem stepR_scope {c : Code} : Go.step P (lone (b.atR a (.code (.scope c) :: k)) cs w) = .next (lone (b.atR a (.code c :: .inScope c :: k)) cs w) :=
  step_lone_go (by simp [stepG, stepG.exec, Frame.atR])
theorem stepR_inScope {c : Code} : Go.step P (lone (b.atR a (.inScope c :: k)) cs w) = .next (lone (b.atR a k) cs w) :=
  step_lone_go (by simp [stepG, stepG.exec, Frame.atR])

theorem wpIn_scope_straight {c : Code} (h : c.wpIn F n P Q a w) (hg : ∀ l a w, ¬ Q (.goto l) a w) : (Code.scope c).wpIn F n P Q a w := by
  intro b k cs hro hb hr
  have h0 : (lone (b.atR a (.code (.scope c) :: k)) cs w).fenced P F := fenced_calm hb hr rfl
  obtain ⟨e, a₁, w₁, hq, harr⟩ := h b (.inScope c :: k) cs hro hb hr
  cases e with
  | normal => exact ⟨.normal, a₁, w₁, hq, .head h0 stepR_scope (StepsIn.trans harr (.one (fenced_calm hb hr rfl) stepR_inScope))⟩
  | exit id =>
    have hx : exitTo id (.inScope c :: k) = exitTo id k := by simp [exitTo]
    exact ⟨.exit id, a₁, w₁, hq, fun k' hk => .head h0 stepR_scope (harr.1 k' (by rw [hx]; exact hk)),
      fun hr' hk => let ⟨k₁, h1, h2⟩ := harr.2 hr' (by rw [hx]; exact hk); ⟨k₁, h1, .head h0 stepR_scope h2⟩⟩
  | goto l => exact (hg _ _ _ hq).elim
  | ret => exact ⟨_, a₁, w₁, hq, .of_steps (.one h0 stepR_scope) harr⟩
  | panic ch => exact ⟨_, a₁, w₁, hq, .of_steps (.one h0 stepR_scope) harr⟩
  | outgrown => exact ⟨_, a₁, w₁, hq, .of_steps (.one h0 stepR_scope) harr⟩

/-- At the head of a loop's round. -/
def LoopIn (F : Fence) (n : Nat) (P : Program) (c : Code) (Q : Exit → Act → World → Prop) (a : Act) (w : World) : Prop :=
  ∀ (b : Frame) (k : List Item) (cs : List Frame), b.roundOf = F.round → F.fn b.fn → F.room (cs.length + 1 + n) →
    ∃ e a' w', Q e a' w' ∧ ArrivesIn (Machine.fenced P F) P (lone (b.atR a (.code c :: .inLoop c :: k)) cs w) b k cs e a' w'

theorem LoopIn.wpIn {c : Code} (h : LoopIn F n P c Q a w) : (Code.loop c).wpIn F n P Q a w := fun b k cs hro hb hr =>
  let ⟨e, a', w', q, r⟩ := h b k cs hro hb hr; ⟨e, a', w', q, .of_steps (.one (fenced_calm hb hr rfl) stepR_loop) r⟩

theorem LoopIn.round {c : Code} (h : c.wpIn F n P (Exit.then (LoopIn F n P c Q) Q) a w) : LoopIn F n P c Q a w := by
  intro b k cs hro hb hr
  obtain ⟨e, a₁, w₁, hq, harr⟩ := h b (.inLoop c :: k) cs hro hb hr
  cases e with
  | normal =>
    obtain ⟨e₂, a₂, w₂, hq₂, harr₂⟩ := hq b k cs hro hb hr
    exact ⟨e₂, a₂, w₂, hq₂, .of_steps (StepsIn.trans harr (.one (fenced_calm hb hr rfl) stepR_inLoop)) harr₂⟩
  | exit id => exact ⟨_, a₁, w₁, hq, .pass (x := .inLoop c) rfl (fun _ _ => .inl (by simp)) harr⟩
  | goto l => exact ⟨_, a₁, w₁, hq, .pass (x := .inLoop c) rfl (fun _ _ => .inl (by simp)) harr⟩
  | ret => exact ⟨_, a₁, w₁, hq, .pass (x := .inLoop c) rfl (fun _ _ => .inl (by simp)) harr⟩
  | panic ch => exact ⟨_, a₁, w₁, hq, .pass (x := .inLoop c) rfl (fun _ _ => .inl (by simp)) harr⟩
  | outgrown => exact ⟨_, a₁, w₁, hq, .pass (x := .inLoop c) rfl (fun _ _ => .inl (by simp)) harr⟩
end scope

def chkC (P : Program) (nt : Nat) : Code → RC → Bool
  | .skip, .skip => true
  | .label _, .skip => true
  | .region _ ops d, .reg rs d' => (d == d' && chkReg P nt ops rs d) || (d && (!d' && chkCalm P nt ops rs))
  | .seq a b, .seq a' b' => chkC P nt a a' && chkC P nt b b'
  | .cond c a b, .cond c' a' b' => chkA c c' && (chkC P nt a a' && chkC P nt b b')
  | .block i b, .block j b' => i == j && chkC P nt b b'
  | .loop b, .loop _ b' => chkC P nt b b'
  | .rangeFunc g ps a b, .rng f ps' a' b' => chkA g f && (ps.toList == ps' && (ps'.all (fun t => decide (t < nt) && decide (t < 1024)) && (chkC P nt a a' && chkC P nt b b')))
  | .exit i, .exit j => i == j
  | .scope b, .scope b' => chkC P nt b b'
  | .ret, .ret => true
  | _, _ => false

section
variable {P : Program} {G : Gl} {B : Nat} {w0 : World} {I0 : Imm} {gh : Gh} {nt n : Nat} {ro : Option Nat}

/-- The parameters of a round. -/
def setPsT : List Nat → List AV → T → T
  | p :: ps, a :: as, tm => setPsT ps as (tm.set tdepth p a)
  | _, _, tm => tm

theorem setPs_eq {α : Sort _} : ∀ (ps : List Nat) (as : List AV) (tm : T) (K : T → α), setPs ps as tm K = K (setPsT ps as tm)
  | p :: ps, a :: as, tm, K => by simp only [setPs, setPsT, forceA_eq, setK_eq]; exact setPs_eq ps as _ K
  | [], _, _, _ => by simp [setPs, setPsT]
  | _ :: _, [], _, _ => by simp [setPs, setPsT]

theorem setPs_rep {w : World} {I : Imm} {ι : Nat → Option Nat} {σ : Store} {D : Nat → Prop} : ∀ (ps : List Nat) (xs : List Value) (as : List AV) (tmps : Array Value) (tm : T), xs.length = as.length → (∀ p ∈ ps, p < tmps.size ∧ p < 1024) →
    (∀ (j : Nat) (x : Value) (q : AV), xs[j]? = some x → as[j]? = some q → RepA w I ι σ D x q) → (∀ t, t < 1024 → RepA w I ι σ D (tmps.getD t undef) (tm.get tdepth t)) →
    ((ps.zip xs).foldl (fun tmps x => tmps.setIfInBounds x.1 x.2) tmps).size = tmps.size ∧ ∀ t, t < 1024 → RepA w I ι σ D (((ps.zip xs).foldl (fun tmps x => tmps.setIfInBounds x.1 x.2) tmps).getD t undef) ((setPsT ps as tm).get tdepth t)
  | p :: ps, x :: xs, a :: as, tmps, tm, hl, hp, ha, ht => by
    simp only [List.zip_cons_cons, List.foldl_cons, setPsT]
    obtain ⟨h1, h2⟩ := hp p (by simp)
    have := setPs_rep ps xs as (tmps.setIfInBounds p x) (tm.set tdepth p a) (by simpa using hl) (fun q hq => by simpa using hp q (by simp [hq])) (fun j y q hy hq => ha (j + 1) y q (by simpa using hy) (by simpa using hq)) (fun t htl => by
      rw [get_set]
      have e1 : t % 2 ^ tdepth = t := Nat.mod_eq_of_lt htl
      have e2 : p % 2 ^ tdepth = p := Nat.mod_eq_of_lt h2
      rw [e1, e2]
      by_cases e : t = p
      · subst e
        rw [if_pos rfl]
        have : (tmps.setIfInBounds t x).getD t undef = x := by simp [Array.getD, h1]
        rw [this]; exact ha 0 x a rfl rfl
      · rw [if_neg e]
        have : (tmps.setIfInBounds p x).getD t undef = tmps.getD t undef := by
          simp only [Array.getD_eq_getD_getElem?]
          rw [Array.getElem?_setIfInBounds_ne (fun h => e h.symm)]
        rw [this]; exact ht t htl)
    exact ⟨by rw [this.1]; simp, this.2⟩
  | [], _, _, tmps, tm, _, _, _, ht => by simp only [List.zip_nil_left, List.foldl_nil, setPsT]; exact ⟨trivial, ht⟩
  | _ :: _, [], [], tmps, tm, _, _, _, ht => by simp only [List.zip_nil_right, List.foldl_nil, setPsT]; exact ⟨trivial, ht⟩
  | _ :: _, [], _ :: _, _, _, hl, _, _, _ => by simp at hl
  | _ :: _, _ :: _, [], _, _, hl, _, _, _ => by simp at hl

variable (P G B w0 I0 gh nt) in
def SimT (s : St) (a : Act) (w : World) : Prop := s.nt = nt ∧ gh.n0 ≤ s.nx ∧ Sim P G B w0 I0 gh (fun b => b < s.nx) s a w

variable (P G B w0 I0 gh nt) in
def postQ (Q : Ex → St → Prop) : Exit → Act → World → Prop
  | .normal, a, w => ∃ s, Q .normal s ∧ SimT P G B w0 I0 gh nt s a w
  | .exit i, a, w => ∃ s, Q (.exit i) s ∧ SimT P G B w0 I0 gh nt s a w
  | .ret, a, w => ∃ s, Q .ret s ∧ SimT P G B w0 I0 gh nt s a w
  | _, _, _ => False

theorem RunR.counts {Ok : Nat → List PV → Own → PV → Prop} {ins : Nat → RIns} {nmf : Nat → Nat} {dat : Nat → Dat} : ∀ (L : List Nat) {st sf : St}, RunR G Ok ins nmf dat L st sf → sf.nx = st.nx ∧ sf.nt = st.nt
  | [], _, _, h => ⟨h.nx, h.nt⟩
  | i :: L, st, sf, h => by
    have := RunR.counts L h.2
    simp only [afterD, after, putW_nx, putW_nt] at this
    exact this

theorem reg_sound {E : Env} {nrm : Bool} (hE : EnvOk P G E ro B w0 I0 gh) (hm : P.follows .mixedOrders = true) {id : Nat} {ops : Array Oper} {rs : List RIns} {draw : Bool} (hk : chkReg P nt ops rs draw = true) {Q : Ex → St → Prop} {s : St} {a : Act} {w : World}
    (h : aw G (OkC P G) (.reg rs draw) nrm E Q s) (hs : SimT P G B w0 I0 gh nt s a w) : (Code.region id ops draw).wpIn (Fw ro) n P (postQ P G B w0 I0 gh nt Q) a w := by
  obtain ⟨hnt, hn0, hsim⟩ := hs
  obtain ⟨tm, σ, nx, nt'⟩ := s
  simp only at hnt hn0
  subst hnt
  simp only [aw, forceN_eq] at h
  simp only [chkReg, Bool.and_eq_true, Bool.or_eq_true, Bool.not_eq_true'] at hk
  obtain ⟨hall, hdr⟩ := hk
  obtain ⟨hlen, hins⟩ := chkAll_spec hall
  have hsz : rs.length = ops.size := by rw [← hlen]; simp
  have hgetD : ∀ i r, rs[i]? = some r → rs.getD i default = r := fun i r h => by simp [List.getD, h]
  have hins' : ∀ i o, ops[i]? = some o → chkIns P ops nt' o (rs.getD i default) = true := by
    intro i o ho
    have hlt : i < rs.length := by rw [hsz]; exact (Array.getElem?_eq_some_iff.1 ho).1
    rw [hgetD i _ (List.getElem?_eq_getElem hlt)]
    exact hins i o _ (by simpa using ho) (List.getElem?_eq_getElem hlt)
  have hnew : ∀ b, b < nx → ∀ j, ¬ Names (nx + stride * j) b := fun b hb j hn => by have h2 := hn.1; omega
  cases draw with
  | false =>
    simp only at h
    refine wpIn_region ?_
    rw [List.range_eq_range', ← hsz]
    refine region_seq (nx0 := nx) (KK := Q .normal) hE rs hsz hins' hn0 (fun s' a' w' hq hnt' hnx' hs => ⟨s', hq, hnt', by omega, hs⟩) rs 0 _ a w rfl (by omega) rfl (by rw [hsz]; exact Nat.le_refl _) h ?_
    obtain ⟨I, ι, D, hx⟩ := hsim
    exact ⟨I, ι, D, hx.core, fun b hb => ⟨Nat.lt_of_lt_of_le (hx.names b hb) (Nat.le_add_right _ _), fun j _ => hnew b (hx.names b hb) j⟩, hx.dfs, hx.size, hx.glob, hx.tm, hx.ghost, hx.base, hx.kept, hx.loop⟩
  | true =>
    simp only at h
    obtain ⟨dat, sf, hrun, hq, hcomp⟩ := opsW_run rs nx true rs 0 [] _ _ rfl h
    obtain ⟨hfx, hft⟩ := hrun.counts
    simp only at hfx hft
    have hQ : ∀ a' w', Sim P G B w0 I0 gh (fun b => b < nx + stride * ops.size) sf a' w' → postQ P G B w0 I0 gh nt' Q .normal a' w' := fun a' w' hs =>
      ⟨sf, hq, hft, by rw [hfx]; omega, hs.weaken fun b hb => by rw [hfx, hsz]; exact hb⟩
    have hsim' : ∀ w', Sim P G B w0 I0 gh (fun b => b < nx) ⟨tm, σ, nx, nt'⟩ a w' → Sim P G B w0 I0 gh (NL nx (nx + stride * ops.size) (List.range' 0 ops.size)) ⟨tm, σ, nx + stride * ops.size, nt'⟩ a w' := by
      intro w' hs
      obtain ⟨I, ι, D, hx⟩ := hs
      exact ⟨I, ι, D, hx.core, fun b hb => ⟨Nat.lt_of_lt_of_le (hx.names b hb) (Nat.le_add_right _ _), fun j _ => hnew b (hx.names b hb) j⟩, hx.dfs, hx.size, hx.glob, hx.tm, hx.ghost, hx.base, hx.kept, hx.loop⟩
    rw [hsz] at hrun
    have hdr : apartAll [] rs = true ∧ chkPre rs 0 ops.toList rs = true := by simpa using hdr
    refine wpIn_region_any hm ?_
    have hpre : ∀ i o, ops[i]? = some o → (∀ x, (rs.getD i default).pre.testBit x = true → ∃ e ∈ o.after.toList, Region.binds .any e = true ∧ (e.on = x ∨ (rs.getD e.on default).pre.testBit x = true)) ∧ ∀ e ∈ o.after.toList, Region.binds .any e = true → e.on < i := by
      intro i o ho
      have hlt : i < rs.length := by rw [hsz]; exact (Array.getElem?_eq_some_iff.1 ho).1
      rw [hgetD i _ (List.getElem?_eq_getElem hlt)]
      have := chkPre_spec hdr.2 i o _ (by simpa using ho) (List.getElem?_eq_getElem hlt)
      simpa using this
    have hcomp := hcomp rfl
    refine region_any hins' hpre (fun i j hij hj => ?_) (fun i j hij hj hc => ?_) hn0 hQ ops.size _ (List.range' 0 ops.size) _ a _ (by simp) (by simp) List.pairwise_lt_range' (fun i => ?_) (fun j hj hl => ?_) rfl hrun (hsim' _ hsim.drew)
    · have h1 : i < rs.length := by omega
      have h2 : j < rs.length := by omega
      rw [hgetD i _ (List.getElem?_eq_getElem h1), hgetD j _ (List.getElem?_eq_getElem h2)]
      exact apartAll_spec rs [] hdr.1 i j _ _ hij (by simp) (by simp) (by simp)
    · have g : ∀ k, k < rs.length → (([] : List Rec) ++ (List.range' 0 rs.length).map fun i => (dat i).toRec (rs.getD i default))[k]? = some ((dat k).toRec (rs.getD k default)) := by
        intro k hk
        simp [hk]
      exact compat_spec _ [] hcomp i j _ _ hij (by simp) (g i (by omega)) (g j (by omega)) hc
    · rw [List.mem_range'_1]
      constructor
      · intro h; exact ⟨by omega, by simp [Array.getD, show i < ops.size by omega]⟩
      · intro h; exact ⟨Nat.zero_le _, by omega⟩
    · simp [hj] at hl

/-- A region that draws its order, taken in order. -/
theorem calm_sound {E : Env} {nrm : Bool} (hE : EnvOk P G E ro B w0 I0 gh) (hm : P.follows .mixedOrders = true) {id : Nat} {ops : Array Oper} {rs : List RIns} (hk : chkCalm P nt ops rs = true) {Q : Ex → St → Prop} {s : St} {a : Act} {w : World}
    (h : aw G (OkC P G) (.reg rs false) nrm E Q s) (hs : SimT P G B w0 I0 gh nt s a w) : (Code.region id ops true).wpIn (Fw ro) n P (postQ P G B w0 I0 gh nt Q) a w := by
  obtain ⟨hnt, hn0, hsim⟩ := hs
  obtain ⟨tm, σ, nx, nt'⟩ := s
  simp only at hnt hn0
  subst hnt
  simp only [aw, forceN_eq] at h
  simp only [chkCalm, chkReg, Bool.and_eq_true, Bool.or_eq_true, Bool.not_eq_true', Bool.true_eq_false, false_or] at hk
  obtain ⟨⟨hall, hdr⟩, hcalm⟩ := hk
  obtain ⟨hlen, hins⟩ := chkAll_spec hall
  have hsz : rs.length = ops.size := by rw [← hlen]; simp
  have hgetD : ∀ i r, rs[i]? = some r → rs.getD i default = r := fun i r h => by simp [List.getD, h]
  have hins' : ∀ i o, ops[i]? = some o → chkIns P ops nt' o (rs.getD i default) = true := by
    intro i o ho
    have hlt : i < rs.length := by rw [hsz]; exact (Array.getElem?_eq_some_iff.1 ho).1
    rw [hgetD i _ (List.getElem?_eq_getElem hlt)]
    exact hins i o _ (by simpa using ho) (List.getElem?_eq_getElem hlt)
  have hnew : ∀ b, b < nx → ∀ j, ¬ Names (nx + stride * j) b := fun b hb j hn => by have h2 := hn.1; omega
  refine wpIn_region_any hm ?_
  have hpre : ∀ i o, ops[i]? = some o → (∀ x, (rs.getD i default).pre.testBit x = true → ∃ e ∈ o.after.toList, Region.binds .any e = true ∧ (e.on = x ∨ (rs.getD e.on default).pre.testBit x = true)) ∧ ∀ e ∈ o.after.toList, Region.binds .any e = true → e.on < i := by
    intro i o ho
    have hlt : i < rs.length := by rw [hsz]; exact (Array.getElem?_eq_some_iff.1 ho).1
    rw [hgetD i _ (List.getElem?_eq_getElem hlt)]
    have := chkPre_spec hdr.2 i o _ (by simpa using ho) (List.getElem?_eq_getElem hlt)
    simpa using this
  have hrun := opsL_of (G := G) (nx0 := nx) rs rs 0 _ _ rfl h
  rw [hsz] at hrun
  refine region_calm (nx0 := nx) (KK := Q .normal) hE hins' hpre (fun i j hij hj => ?_) (fun i j hij hj => ?_) hn0 (fun s' a' w' hq hnt' hnx' hs => ⟨s', hq, hnt', by omega, hs⟩) ops.size _ (List.range' 0 ops.size) _ a _ (by simp) (by simp) List.pairwise_lt_range' (fun i => ?_) (fun j hj hl => ?_) rfl (by simp) hrun ?_
  · have h1 : i < rs.length := by omega
    have h2 : j < rs.length := by omega
    rw [hgetD i _ (List.getElem?_eq_getElem h1), hgetD j _ (List.getElem?_eq_getElem h2)]
    exact apartAll_spec rs [] hdr.1 i j _ _ hij (by simp) (by simp) (by simp)
  · have h1 : i < rs.length := by omega
    have h2 : j < rs.length := by omega
    rw [hgetD i _ (List.getElem?_eq_getElem h1), hgetD j _ (List.getElem?_eq_getElem h2)]
    exact calmAll_spec rs [] hcalm i j _ _ hij (by simp) (by simp) (by simp)
  · rw [List.mem_range'_1]
    constructor
    · intro h; exact ⟨by omega, by simp [Array.getD, show i < ops.size by omega]⟩
    · intro h; exact ⟨Nat.zero_le _, by omega⟩
  · simp [hj] at hl
  · obtain ⟨I, ι, D, hx⟩ := hsim.drew
    exact ⟨I, ι, D, hx.core, fun b hb => ⟨Nat.lt_of_lt_of_le (hx.names b hb) (Nat.le_add_right _ _), fun j _ => hnew b (hx.names b hb) j⟩, hx.dfs, hx.size, hx.glob, hx.tm, hx.ghost, hx.base, hx.kept, hx.loop⟩

/-- The theorem's statement, for one code. -/
def Sound (P : Program) (G : Gl) (B : Nat) (w0 : World) (I0 : Imm) (nt : Nat) (rc : RC) : Prop :=
  ∀ (code : Code), chkC P nt code rc = true → ∀ (n : Nat) (ro : Option Nat) (gh : Gh) (E : Env) (nrm : Bool), EnvOk P G E ro B w0 I0 gh → (nrm = true → gh = Gh.top) →
    ∀ (Q : Ex → St → Prop) (s : St) (a : Act) (w : World), aw G (OkC P G) rc nrm E Q s → SimT P G B w0 I0 gh nt s a w → code.wpIn (Fw ro) n P (postQ P G B w0 I0 gh nt Q) a w

/-- What a round of the loop does. -/
theorem yld_ok {E : Env} {p : LoopAt} {ps : List Nat} {x y : RC} {tm : T} (ihx : Sound P G B w0 I0 nt x) (ihy : Sound P G B w0 I0 nt y) (hinl : InlOk P G E.inl) (hkx : chkC P nt p.data.assign x = true) (hky : chkC P nt p.data.body y = true)
    (hps : p.data.params.toList = ps) (hall : ∀ t ∈ ps, t < nt ∧ t < 1024) (hsz : p.data.tmps.size = nt) {gs : Value → AV → Prop} (hgs : ∀ t, t < 1024 → gs (p.data.tmps.getD t undef) (tm.get tdepth t)) (hBl : B ≤ p.l) :
    YldOk P G p (fun args σ₁ nx₁ K => match args.length == ps.length with
          | true => setPs ps args tm fun tm' => aw G (OkC P G) x false ⟨E.inl, fun _ => none, none⟩ (Ex.then (aw G (OkC P G) y false ⟨E.inl, fun _ => none, none⟩ (endR K)) fun _ _ => False) ⟨tm', σ₁, nx₁, nt⟩
          | false => False) B w0 I0 gs := by
  intro args σ₁ nx₁ K hh gs' w₂ I₂ ι₂ D₂ vs hgs' hc hDn hgl hvl har hgr hrec
  split at hh
  · rename_i hlen
    rw [beq_iff_eq] at hlen
    rw [setPs_eq] at hh
    have hpsz : vs.size = p.data.params.size := by rw [hvl, hlen, ← hps]; simp
    refine ⟨hpsz, roundIn_of_wpIn trivial ?_⟩
    have hE1 : ∀ gh1 : Gh, EnvOk P G ⟨E.inl, fun _ => none, none⟩ (some p.l) B w0 I0 gh1 := fun gh1 => ⟨hinl, fun g it h => (by cases h), fun _ _ _ => rfl, fun b h e => by cases e⟩
    have hfold : (p.data.params.zip vs).foldl (fun tmps (x : Tmp × Value) => tmps.setIfInBounds x.1 x.2) p.data.tmps = (ps.zip vs.toList).foldl (fun tmps x => tmps.setIfInBounds x.1 x.2) p.data.tmps := by
      rw [← Array.foldl_toList, Array.toList_zip, hps]
    obtain ⟨q1, q2⟩ := setPs_rep (w := w₂) (I := I₂) (ι := ι₂) (σ := σ₁) (D := D₂) ps vs.toList args p.data.tmps tm (by simpa using hvl) (fun t ht => by rw [hsz]; exact hall t ht) (fun j x q hx hq => har j x q (by simpa using hx) hq) (fun t ht => hgr _ _ (hgs' _ _ (hgs t ht)))
    have sim1 : SimT P G B w0 I0 ⟨gs', D₂, nx₁, fun r o => still o = true ∧ w₂.heap[r]? = some o, none⟩ nt ⟨setPsT ps args tm, σ₁, nx₁, nt⟩ { tmps := (p.data.params.zip vs).foldl (fun tmps (x : Tmp × Value) => tmps.setIfInBounds x.1 x.2) p.data.tmps, defers := [] } w₂ := by
      rw [hfold]
      exact ⟨rfl, Nat.le_refl _, I₂, ι₂, D₂, hc, hDn, ⟨[], rfl, List.nodup_nil, fun r h => by cases h⟩, q1.trans hsz, hgl, q2, hgr, fun b h => .inl h, fun r o h => h, fun _ h => by cases h⟩
    refine wpIn_mono (ihx _ hkx 0 (some p.l) _ _ false (hE1 _) (fun h => by cases h) _ _ _ _ hh sim1) fun e a₁ w₃ he => ?_
    cases e with
    | normal =>
      obtain ⟨s₁, hs₁, hnt1, hn1, I₃, ι₃, D₃, hx₃⟩ := he
      have hr₃ : w₃.heap[p.l]? = some (.loop (p.at 0)) := (hx₃.kept p.l _ ⟨rfl, hrec⟩).2
      have hlt : p.l < w₃.heap.size := (Array.getElem?_eq_some_iff.1 hr₃).1
      refine ⟨w₃.putObj p.l (.loop { p.at 0 with state := .busy }), run_beginRound hr₃ rfl, ?_⟩
      have ho : ∀ (w : World) (o' : Obj) (k : Nat), k ≠ p.l → (w.putObj p.l o').heap[k]? = w.heap[k]? := fun w o' k h => World.putObj_heap_other h
      have hmv : ∀ (w : World) (o' : Obj) (l : Loop), w.heap[p.l]? = some (.loop l) → ∀ (r : Nat) (o : Obj), w.heap[r]? = some o → still o = false → (w.putObj p.l o').heap[r]? = some o := fun w o' l hl r o hr hst => by
        rw [ho _ _ _ fun e => by subst e; rw [hl] at hr; cases hr; cases hst]; exact hr
      have hbl : ∀ (w : World) (o' : Obj), Below B w (w.putObj p.l o') := fun w o' => ⟨rfl, rfl, rfl, by simp, fun k hk => ho w o' k (by omega)⟩
      obtain ⟨hc₃, hL₃⟩ := hx₃.core.move (ι' := ι₃) (D' := D₃) (hmv w₃ (.loop { p.at 0 with state := .busy }) _ hr₃) (by simp) (hbl _ _) (fun _ _ => rfl) (fun _ h => h)
      have sim2 : SimT P G B w0 I0 ⟨gs', D₂, nx₁, fun r o => (still o = true ∧ w₂.heap[r]? = some o ∧ r ≠ p.l) ∨ (r = p.l ∧ o = .loop { p.at 0 with state := .busy }), none⟩ nt s₁ a₁ (w₃.putObj p.l (.loop { p.at 0 with state := .busy })) := by
        refine ⟨hnt1, hn1, I₃, ι₃, D₃, hc₃, hx₃.names, ?_, hx₃.size, hx₃.glob.mono hL₃.keeps, fun t ht => (hx₃.tm t ht).mono0 hL₃, fun v av hg => (hx₃.ghost v av hg).mono0 hL₃, hx₃.base, fun r o hk => ?_, fun _ h => by cases h⟩
        · obtain ⟨rs, h1, h2, h3⟩ := hx₃.dfs
          have hne : ∀ r ∈ rs, r ≠ p.l := fun r hr e => by have := (h3 r hr).2.2; rw [e, hr₃] at this; cases this
          refine ⟨rs, h1, h2, fun r hr => ⟨(h3 r hr).1, fun o hk => ?_, by rw [ho _ _ _ (hne r hr)]; exact (h3 r hr).2.2⟩⟩
          rcases hk with ⟨k1, k2, k3⟩ | ⟨k1, k2⟩
          · exact (h3 r hr).2.1 o ⟨k1, k2⟩
          · exact hne r hr k1
        · rcases hk with ⟨k1, k2, k3⟩ | ⟨k1, k2⟩
          · exact ⟨k1, by rw [ho _ _ _ k3]; exact (hx₃.kept r o ⟨k1, k2⟩).2⟩
          · subst k1; subst k2; exact ⟨rfl, World.putObj_heap_same hlt⟩
      have fin : ∀ (s₂ : St) (a₂ : Act) (w₄ : World) (jump : Option Code) (pd : Nat), SimT P G B w0 I0 ⟨gs', D₂, nx₁, fun r o => (still o = true ∧ w₂.heap[r]? = some o ∧ r ≠ p.l) ∨ (r = p.l ∧ o = .loop { p.at 0 with state := .busy }), none⟩ nt s₂ a₂ w₄ →
          p.at pd = { p.at 0 with state := if jump.isNone then .ready else .done, pending := jump } → K (.pv (.bool jump.isNone)) s₂.σ s₂.nx pd →
          ∃ v w', (Instr.endRound p.l jump).run P w₄ = .ok v w' ∧ YldPost P G B w0 I0 p gs' D₂ w₂ nx₁ K (.returned v) w' := by
        intro s₂ a₂ w₄ jump pd ⟨_, hn2, I₄, ι₄, D₄, hx₄⟩ hp hK
        have hr₄ : w₄.heap[p.l]? = some (.loop { p.at 0 with state := .busy }) := (hx₄.kept p.l _ (.inr ⟨rfl, rfl⟩)).2
        have hlt : p.l < w₄.heap.size := (Array.getElem?_eq_some_iff.1 hr₄).1
        refine ⟨_, _, run_endRound jump hr₄, ?_⟩
        obtain ⟨hc₄, hL₄⟩ := hx₄.core.move (ι' := ι₄) (D' := D₄) (hmv w₄ (.loop { p.at 0 with state := if jump.isNone then .ready else .done, pending := jump }) _ hr₄) (by simp) (hbl _ _) (fun _ _ => rfl) (fun _ h => h)
        exact ⟨_, _, _, pd, I₄, ι₄, D₄, hK, hc₄, hn2, fun b hb => (hx₄.base b hb).elim .inl fun h => .inr ⟨h, hx₄.names b hb⟩, .pv (.bool _), hx₄.glob.mono hL₄.keeps, fun x a hg => (hx₄.ghost x a hg).mono0 hL₄,
          fun r o hne hst hr => by rw [ho _ _ _ hne]; exact (hx₄.kept r o (.inl ⟨hst, hr, hne⟩)).2, by rw [hp]; exact World.putObj_heap_same hlt⟩
      refine wpIn_mono (ihy _ hky 0 (some p.l) _ _ false (hE1 _) (fun h => by cases h) _ _ _ _ hs₁ sim2) fun e a₂ w₄ he => ?_
      cases e with
      | normal => obtain ⟨s₂, hs₂, hsim⟩ := he; exact fin s₂ a₂ w₄ none 0 hsim rfl hs₂
      | ret => obtain ⟨s₂, hs₂, hsim⟩ := he; exact fin s₂ a₂ w₄ (some .ret) 1 hsim rfl hs₂
      | exit i => obtain ⟨s₂, hs₂, hsim⟩ := he; exact fin s₂ a₂ w₄ (some (.exit i)) (i + 2) hsim rfl hs₂
      | goto l => exact he.elim
      | panic c => exact he.elim
      | outgrown => exact he.elim
    | exit i => obtain ⟨s₁, hs₁, _⟩ := he; exact hs₁.elim
    | ret => obtain ⟨s₁, hs₁, _⟩ := he; exact hs₁.elim
    | goto l => exact he.elim
    | panic c => exact he.elim
    | outgrown => exact he.elim
  · exact hh.elim

theorem rng_sound {f : RA} {ps : List Nat} {x y : RC} (ihx : Sound P G B w0 I0 nt x) (ihy : Sound P G B w0 I0 nt y) {g : Operand} {prm : Array Tmp} {as bd : Code}
    (hk : (chkA g f && (prm.toList == ps && (ps.all (fun t => decide (t < nt) && decide (t < 1024)) && (chkC P nt as x && chkC P nt bd y)))) = true) {E : Env} {nrm : Bool} (hE : EnvOk P G E ro B w0 I0 gh) {Q : Ex → St → Prop} {s : St} {a : Act} {w : World}
    (h : aw G (OkC P G) (.rng f ps x y) nrm E Q s) (hs : SimT P G B w0 I0 gh nt s a w) : (Code.rangeFunc g prm as bd).wpIn (Fw ro) n P (postQ P G B w0 I0 gh nt Q) a w := by
  simp only [Bool.and_eq_true, beq_iff_eq, List.all_eq_true, decide_eq_true_eq] at hk
  obtain ⟨hf, hps, hall, hkx, hky⟩ := hk
  obtain ⟨tm, σ, nx, nt'⟩ := s
  simp only [aw] at h
  split at h
  · rename_i gi fa fb hca
    split at h
    · rename_i it hit
      have hro : ro = none := by
        cases ro with
        | none => rfl
        | some l => have := hE.none l rfl gi; rw [hit] at this; cases this
      subst hro
      obtain ⟨hnt, hn0, I, ι, D, hx⟩ := hs
      simp only at hnt hn0
      subst hnt
      rw [forceN_eq] at h
      refine wpIn_rangeFunc fun fn _ => ?_
      obtain ⟨xs, ys, hxf, hxl, hyl, hxr, hyr⟩ := callee_rep hca (hx.eval hf)
      let p : LoopAt := ⟨nx, w.heap.size + 1, { state := .ready, pending := none, fn, tmps := a.tmps, params := prm, assign := as, body := bd, defers := w.heap.size }⟩
      let w₁ := (w.alloc (.deferred (some []))).alloc (.loop p.data)
      have hw₁ : ∀ (r : Nat) (o : Obj), w.heap[r]? = some o → w₁.heap[r]? = some o := fun r o hr => by
        have hlt := (Array.getElem?_eq_some_iff.1 hr).1
        rw [Below.heap_alloc _ _ _ (by simp; omega), Below.heap_alloc _ _ _ hlt]; exact hr
      have hBw : B ≤ w.heap.size := Nat.le_trans hx.core.hB hx.core.below.size
      have hbl₁ : Below B w w₁ := ((Below.refl B w).alloc hBw _).alloc (by simp; omega) _
      have hrec₁ : w₁.heap[p.l]? = some (.loop (p.at 0)) := by
        have := World.alloc_heap_new (w.alloc (.deferred (some []))) (.loop p.data)
        rw [World.size_alloc] at this
        exact this
      have hdef₁ : w₁.heap[w.heap.size]? = some (.deferred (some [])) := by
        rw [Below.heap_alloc _ _ _ (by simp)]
        exact World.alloc_heap_new w (.deferred (some []))
      let ι' : Nat → Option Nat := fun b => if b = nx then some p.l else ι b
      let D' : Nat → Prop := fun b => D b ∨ b = nx
      have hDlt : ∀ b, D b → b < nx := hx.names
      obtain ⟨hc₁, hL₁⟩ := hx.core.move (w' := w₁) (ι' := ι') (D' := D') (fun r o hr _ => hw₁ r o hr) (by simp [w₁]; omega) hbl₁ (fun b hb => if_neg (by have := hDlt b hb; omega)) (fun b h => .inl h)
      let yv : Value := .func (.yield p.l) #[] #[]
      have hyl' : RepA w₁ I ι' σ D' yv (.yld nx) := .yld (.inr rfl) ⟨p.l, if_pos rfl, rfl⟩
      let gs : Value → AV → Prop := fun v av => gh.gs v av ∨ (∃ t, t < 1024 ∧ v = a.tmps.getD t undef ∧ av = tm.get tdepth t) ∨ (v = yv ∧ av = .yld p.b)
      have hsza : a.tmps.size = nt' := hx.size
      obtain ⟨henter, hcalls⟩ := hE.itr gi it hit nx _ _ _ _ _ h B w0 I0 gs p w₁ I ι' D' (xs ++ #[yv] ++ ys) hc₁ (fun b hb => by rcases hb with hb | rfl; have := hDlt b hb; omega; omega) (hx.glob.mono hL₁.keeps)
        (by simp only [Array.size_append, List.length_append, hxl, hyl]; rfl)
        (fun j z q hz hq => by
          by_cases h1 : j < fa.length
          · rw [List.getElem?_append_left (by simp; omega), List.getElem?_append_left h1] at hq
            rw [Array.getElem?_append_left (by simp; omega), Array.getElem?_append_left (by omega)] at hz
            exact (hxr j z q hz hq).mono0 hL₁
          · by_cases h2 : j = fa.length
            · rw [List.getElem?_append_left (by simp; omega), List.getElem?_append_right (by omega)] at hq
              rw [Array.getElem?_append_left (by simp; omega), Array.getElem?_append_right (by omega)] at hz
              have e1 : j - fa.length = 0 := by omega
              have e2 : j - xs.size = 0 := by omega
              rw [e1] at hq
              rw [e2] at hz
              simp at hq hz
              subst hq; subst hz
              exact hyl'
            · rw [List.getElem?_append_right (by simp; omega)] at hq
              rw [Array.getElem?_append_right (by simp; omega)] at hz
              simp only [List.length_append, List.length_cons, List.length_nil, Array.size_append] at hq hz
              have e : xs.size + #[yv].size = fa.length + (0 + 1) := by rw [hxl]; rfl
              rw [e] at hz
              exact (hyr _ z q hz hq).mono0 hL₁)
        (fun v av hv => by
          rcases hv with hv | ⟨t, ht, rfl, rfl⟩ | ⟨rfl, rfl⟩
          · exact (hx.ghost v av hv).mono0 hL₁
          · exact (hx.tm t ht).mono0 hL₁
          · exact hyl') rfl (.inr (.inr ⟨rfl, rfl⟩)) (by show B ≤ w.heap.size + 1; omega) hrec₁
        (yld_ok ihx ihy hE.inl hkx hky hps hall hsza (fun t ht => .inr (.inl ⟨t, ht, rfl, rfl⟩)) (by show B ≤ w.heap.size + 1; omega))
      refine ⟨w.heap.size + 1, [{ target := .collected w.heap.size, args := #[] }], w₁, { target := .fn (.func gi) ys, args := xs ++ #[yv] }, w₁, gi, xs ++ #[yv] ++ ys, w₁, run_enterLoop_outer fn a.tmps prm as bd, ?_, fun _ _ => trivial, henter w₁, fun h => by simp [Fence.wide] at h, ?_⟩
      · have e : Array.map a.eval #[Operand.const yv] = #[yv] := by simp [Act.eval]
        simp only [resolve, hxf, Deferred.ofValue, Sem.run_pure]
        show Result.ok ({ target := Target.fn (Fn.func gi) ys, args := xs ++ Array.map a.eval #[Operand.const yv] } : Deferred) w₁ = _
        rw [e]
      · have hc' : CallsIn (Fw none) 0 P gi (xs ++ #[yv] ++ ys) w₁ _ := hcalls
        refine CallsIn.mono (CallsIn.more hc' (Nat.zero_le _)) fun e w₃ he => ?_
        cases e with
        | returned v =>
          obtain ⟨k, σ', nx', I', ι'', D'', hK, hc₂, hle, hD2, hglob, hgs, hstill, hrec⟩ := he
          have hbusy : (p.at k).state ≠ .busy := by
            match k with
            | 0 => intro e; cases e
            | 1 => intro e; cases e
            | i + 2 => intro e; cases e
          have ho : ∀ (o' : Obj) (k : Nat), k ≠ p.l → (w₃.putObj p.l o').heap[k]? = w₃.heap[k]? := fun o' k h => World.putObj_heap_other h
          obtain ⟨hc₄, hL₄⟩ := hc₂.move (w' := w₃.putObj p.l (.loop { p.at k with state := .exhausted })) (ι' := ι'') (D' := D'') (fun r o hr hst => by rw [ho _ _ fun e => by subst e; rw [hrec] at hr; cases hr; cases hst]; exact hr) (by simp)
            ⟨rfl, rfl, rfl, by simp, fun k hk => ho _ k (fun e => by subst e; simp only [p] at hk; omega)⟩ (fun _ _ => rfl) (fun _ h => h)
          have hold : ∀ (r : Nat) (o : Obj), still o = true → w.heap[r]? = some o → (w₃.putObj p.l (.loop { p.at k with state := .exhausted })).heap[r]? = some o := fun r o hst hr => by
            have hlt := (Array.getElem?_eq_some_iff.1 hr).1
            have hne : r ≠ p.l := by simp only [p]; omega
            rw [ho _ _ hne]
            exact hstill r o hne hst (hw₁ r o hr)
          have hsim : SimT P G B w0 I0 gh nt' ⟨tm, σ', nx', nt'⟩ { a with defers := [{ target := .collected w.heap.size, args := #[] }] ++ a.defers } (w₃.putObj p.l (.loop { p.at k with state := .exhausted })) := by
            refine ⟨rfl, by simp only; omega, I', ι'', D'', hc₄, fun b hb => ?_, ?_, hsza, hglob.mono hL₄.keeps, fun t ht => (hgs _ _ (.inr (.inl ⟨t, ht, rfl, rfl⟩))).mono0 hL₄, fun v av hg => (hgs _ _ (.inl hg)).mono0 hL₄, fun b hb => ?_, fun r o hk => ⟨(hx.kept r o hk).1, hold r o (hx.kept r o hk).1 (hx.kept r o hk).2⟩, fun q hq => ?_⟩
            · rcases hD2 b hb with (h | h) | h
              · have := hDlt b h; simp only; omega
              · simp only; omega
              · exact h.2
            · obtain ⟨rs, h1, h2, h3⟩ := hx.dfs
              refine ⟨w.heap.size :: rs, by simp [h1], ?_, fun r hr => ?_⟩
              · rw [List.nodup_cons]
                exact ⟨fun hm => by have := (Array.getElem?_eq_some_iff.1 (h3 _ hm).2.2).1; omega, h2⟩
              · rcases List.mem_cons.1 hr with rfl | hr
                · refine ⟨hBw, fun o hk => ?_, ?_⟩
                  · have := (Array.getElem?_eq_some_iff.1 (hx.kept _ o hk).2).1; omega
                  · have hne : w.heap.size ≠ p.l := by simp only [p]; omega
                    rw [ho _ _ hne]
                    exact hstill _ _ hne rfl hdef₁
                · exact ⟨(h3 r hr).1, (h3 r hr).2.1, hold r _ rfl (h3 r hr).2.2⟩
            · rcases hD2 b hb with (h | h) | h
              · exact hx.base b h
              · exact .inr (by omega)
              · exact .inr (by omega)
            · obtain ⟨h1, h2, k', h3, h4⟩ := hx.loop q hq
              exact ⟨h1, h2, k', h3, hold _ _ rfl h4⟩
          refine ⟨(p.at k).pending, _, run_endLoop hrec hbusy, ?_⟩
          match k, hK, hsim with
          | 0, hK, hsim => exact ⟨_, hK, hsim⟩
          | 1, hK, hsim => exact wpIn_ret ⟨_, hK, hsim⟩
          | i + 2, hK, hsim => exact wpIn_exit ⟨_, hK, hsim⟩
        | panicked ch => exact he.elim
        | outgrown => exact he.elim
    · exact h.elim
  · exact h.elim

theorem aw_sound_all (hm : P.follows .mixedOrders = true) : ∀ (rc : RC), Sound P G B w0 I0 nt rc := by
  intro rc
  induction rc with
  | skip =>
    intro code hk n ro gh E nrm hE hgh Q s a w h hs
    cases code <;> simp only [chkC] at hk <;> try cases hk
    · exact wpIn_skip ⟨s, h, hs⟩
    · exact wpIn_label ⟨s, h, hs⟩
  | reg rs draw =>
    intro code hk n ro gh E nrm hE hgh Q s a w h hs
    cases code <;> simp only [chkC] at hk <;> try cases hk
    simp only [Bool.or_eq_true, Bool.and_eq_true, beq_iff_eq, Bool.not_eq_true'] at hk
    rcases hk with ⟨rfl, hk⟩ | ⟨rfl, rfl, hk⟩
    · exact reg_sound hE hm hk h hs
    · exact calm_sound hE hm hk h hs
  | seq x y ihx ihy =>
    intro code hk n ro gh E nrm hE hgh Q s a w h hs
    cases code <;> simp only [chkC] at hk <;> try cases hk
    simp only [Bool.and_eq_true] at hk
    refine wpIn_seq (wpIn_mono (ihx _ hk.1 n ro gh E nrm hE hgh _ s a w h hs) fun e a' w' he => ?_)
    cases e with
    | normal => obtain ⟨s', h', hs'⟩ := he; exact ihy _ hk.2 n ro gh E nrm hE hgh Q s' a' w' h' hs'
    | exit id => exact he
    | ret => exact he
    | goto l => exact he
    | panic c => exact he
    | outgrown => exact he
  | cond c x y ihx ihy =>
    intro code hk n ro gh E nrm hE hgh Q s a w h hs
    cases code <;> simp only [chkC] at hk <;> try cases hk
    simp only [Bool.and_eq_true] at hk
    obtain ⟨hc, hx, hy⟩ := hk
    simp only [aw, condW] at h
    split at h
    · rename_i b hb
      obtain ⟨I, ι, D, hxx⟩ := hs.2.2
      have hv := hxx.eval hc
      rw [hb] at hv
      have hv := inv_bool hv
      refine wpIn_cond hv ?_
      cases b
      · exact ihy _ hy n ro gh E nrm hE hgh Q s a w h hs
      · exact ihx _ hx n ro gh E nrm hE hgh Q s a w h hs
    · rename_i hb
      obtain ⟨I, ι, D, hxx⟩ := hs.2.2
      have hv := hxx.eval hc
      rw [hb] at hv
      generalize hX : a.eval _ = X at hv
      cases hv with
      | anyB b =>
        refine wpIn_cond hX ?_
        cases b
        · exact ihy _ hy n ro gh E nrm hE hgh Q s a w h.2 hs
        · exact ihx _ hx n ro gh E nrm hE hgh Q s a w h.1 hs
    · exact h.elim
  | block id b ih =>
    intro code hk n ro gh E nrm hE hgh Q s a w h hs
    cases code <;> simp only [chkC] at hk <;> try cases hk
    simp only [Bool.and_eq_true, beq_iff_eq] at hk
    obtain ⟨rfl, hk⟩ := hk
    rename_i id' c
    refine wpIn_block (wpIn_mono (ih _ hk n ro gh E nrm hE hgh _ s a w h hs) fun e a' w' he => ?_)
    cases e with
    | normal => exact he
    | exit i =>
      obtain ⟨s', h', hs'⟩ := he
      simp only [Ex.inBlock] at h'
      simp only [Exit.inBlock]
      by_cases e : i = id'
      · subst e; simp only [beq_self_eq_true] at h'; rw [if_pos rfl]; exact ⟨s', h', hs'⟩
      · have hb : (i == id') = false := by simpa using e
        rw [hb] at h'; rw [if_neg e]; exact ⟨s', h', hs'⟩
    | ret => exact he
    | goto l => exact he
    | panic c => exact he
    | outgrown => exact he
  | loop live b ih =>
    intro code hk n ro gh E nrm hE hgh Q s a w h hs
    cases code <;> simp only [chkC] at hk <;> try cases hk
    rename_i c
    refine LoopIn.wpIn ?_
    have := h (fun s => ∀ a w, SimT P G B w0 I0 gh nt s a w → LoopIn (Fw ro) n P c (postQ P G B w0 I0 gh nt Q) a w) fun s h' a w hs => by
      have hstep : ∃ s', aw G (OkC P G) b nrm E (Ex.then (fun s => ∀ a w, SimT P G B w0 I0 gh nt s a w → LoopIn (Fw ro) n P c (postQ P G B w0 I0 gh nt Q) a w) Q) s' ∧ SimT P G B w0 I0 gh nt s' a w := by
        cases hn : nrm with
        | true =>
          rw [hn] at h'
          simp only [normK_eq] at h'
          have this := hgh hn
          subst this
          exact ⟨_, h', hs.1, Nat.zero_le _, hs.2.2.norm live⟩
        | false =>
          rw [hn] at h'
          exact ⟨_, h', hs⟩
      obtain ⟨s', h', hs'⟩ := hstep
      refine LoopIn.round (wpIn_mono (ih _ hk n ro gh E nrm hE hgh _ s' a w h' hs') fun e a' w' he => ?_)
      cases e with
      | normal => obtain ⟨s', h', hs'⟩ := he; exact h' a' w' hs'
      | exit id => exact he
      | ret => exact he
      | goto l => exact he
      | panic c => exact he
      | outgrown => exact he
    exact this a w hs
  | rng f ps x y ihx ihy =>
    intro code hk n ro gh E nrm hE hgh Q s a w h hs
    cases code <;> simp only [chkC] at hk <;> try cases hk
    exact rng_sound ihx ihy hk hE h hs
  | exit id =>
    intro code hk n ro gh E nrm hE hgh Q s a w h hs
    cases code <;> simp only [chkC] at hk <;> try cases hk
    simp only [beq_iff_eq] at hk
    subst hk
    exact wpIn_exit ⟨s, h, hs⟩
  | scope b ih =>
    intro code hk n ro gh E nrm hE hgh Q s a w h hs
    cases code <;> simp only [chkC] at hk <;> try cases hk
    exact wpIn_scope_straight (ih _ hk n ro gh E nrm hE hgh _ s a w h hs) fun l a w h => h
  | ret =>
    intro code hk n ro gh E nrm hE hgh Q s a w h hs
    cases code <;> simp only [chkC] at hk <;> try cases hk
    exact wpIn_ret ⟨s, h, hs⟩
theorem aw_sound {E : Env} {nrm : Bool} (hE : EnvOk P G E ro B w0 I0 gh) (hm : P.follows .mixedOrders = true) (hgh : nrm = true → gh = Gh.top) (rc : RC) (code : Code) (hk : chkC P nt code rc = true) (Q : Ex → St → Prop) (s : St) (a : Act) (w : World) (h : aw G (OkC P G) rc nrm E Q s) (hs : SimT P G B w0 I0 gh nt s a w) :
    code.wpIn (Fw ro) n P (postQ P G B w0 I0 gh nt Q) a w := aw_sound_all hm rc code hk n ro gh E nrm hE hgh Q s a w h hs
end
end Go.Ab
