/- Runs: the own code evaluated, and that its result is a contract. Under: nothing. -/
import Derived.Test.YthpnccneaaeomaaAb35c
namespace Go.Ab

abbrev RunY := List AV → Store → Nat → Option (AV × Store × Nat × Nat)

/-- The temporaries are left to be looked at later. -/
noncomputable def putE {α : Sort _} (st : St) (dst : Option Nat) (v : AV) (σ : Store) (K : St → α) : α :=
  match st with
  | ⟨tm, _, nx, nt⟩ => match dst with
    | some d => K ⟨tset10 tm d v, σ, nx, nt⟩
    | none => K ⟨tm, σ, nx, nt⟩

theorem putE_eq {α : Sort _} (st : St) (dst : Option Nat) (v : AV) (σ : Store) (K : St → α) : putE st dst v σ K = K (putW st dst v σ) := by
  obtain ⟨tm, s, nx, nt⟩ := st
  cases dst <;> simp [putE, putW, tset_eq]

structure EnvE where
  inl : Nat → Option RunI
  itr : Nat → Option (Nat → RunY → RunI)
  yld : Option (Nat × RunY)
  call : Nat → List PV → Option (Own × PV)

section
variable (G : Gl)

noncomputable def opE {β : Type} (C : Nat → List PV → Option (Own × PV)) (r : RIns) (nm : Nat) (st : St) (K : St → Rec → Option β) : Option β :=
  match r.op with
  | .call f args => match calleeOf (evE G st f) with
    | some (g, a, b) => match G.prim g with
      | some p => (match p.run (a ++ args.map (evE G st) ++ b) st.σ, st with
        | some (v, c, es, rows), ⟨tm, σ, nx, nt⟩ => forceN c fun c' => upAllK σ [(c', some (.arr es rows false))] fun σ' => putE ⟨tm, σ, nx, nt⟩ r.dst v σ' fun st' => K st' { rd := [c'], sl := [], wr := [c'], pre := r.pre }
        | none, _ => none)
      | none => match pubL (pub st.σ 8) (a ++ args.map (evE G st) ++ b) with
        | some (ps, m) => (match C g ps, st with
          | some (own, res), ⟨tm, σ, nx, nt⟩ => match imp own nm res with
            | (v, up) => sealAllK σ m fun σ₁ => upAllK σ₁ up fun σ₂ => putE ⟨tm, σ, nx, nt⟩ r.dst v σ₂ fun st' => K st' { rd := [], sl := m, wr := up.map (·.1), pre := r.pre }
          | none, _ => none)
        | none => none
    | none => none
  | op => match st with
    | ⟨tm, σ, nx, nt⟩ => match stepE σ nm (evE G ⟨tm, σ, nx, nt⟩) op with
      | some e => putE ⟨tm, σ, nx, nt⟩ r.dst e.v (upAll σ e.up) fun st' => K st' (recOf (evE G ⟨tm, σ, nx, nt⟩) op e r.pre)
      | none => none

noncomputable def insE {β : Type} (C : Nat → List PV → Option (Own × PV)) (r : RIns) (nm : Nat) (st : St) (K : St → Rec → Option β) : Option β :=
  match r.guard with
  | none => opE G C r nm st K
  | some (t, want) => match evE G st (.t t) with
    | .pv (.bool x) => (match x, want with
      | true, true => opE G C r nm st K
      | false, false => opE G C r nm st K
      | _, _ => match st with | ⟨tm, σ, nx, nt⟩ => putE ⟨tm, σ, nx, nt⟩ r.dst (.tup []) σ fun st' => K st' { rd := [], sl := [], wr := [], pre := r.pre })
    | .tup [] => (match st with | ⟨tm, σ, nx, nt⟩ => putE ⟨tm, σ, nx, nt⟩ r.dst (.tup []) σ fun st' => K st' { rd := [], sl := [], wr := [], pre := r.pre })
    | _ => none

/-- An operation that is no call. -/
noncomputable def opN {β : Type} (r : RIns) (nm : Nat) (st : St) (K : St → Rec → Option β) : Option β :=
  match st with
  | ⟨tm, σ, nx, nt⟩ => match stepE σ nm (evE G ⟨tm, σ, nx, nt⟩) r.op with
    | some e => putE ⟨tm, σ, nx, nt⟩ r.dst e.v (upAll σ e.up) fun st' => K st' (recOf (evE G ⟨tm, σ, nx, nt⟩) r.op e r.pre)
    | none => none

noncomputable def insN {β : Type} (r : RIns) (nm : Nat) (st : St) (K : St → Rec → Option β) : Option β :=
  match r.guard with
  | none => opN G r nm st K
  | some (t, want) => match evE G st (.t t) with
    | .pv (.bool x) => (match x, want with
      | true, true => opN G r nm st K
      | false, false => opN G r nm st K
      | _, _ => match st with | ⟨tm, σ, nx, nt⟩ => putE ⟨tm, σ, nx, nt⟩ r.dst (.tup []) σ fun st' => K st' { rd := [], sl := [], wr := [], pre := r.pre })
    | .tup [] => (match st with | ⟨tm, σ, nx, nt⟩ => putE ⟨tm, σ, nx, nt⟩ r.dst (.tup []) σ fun st' => K st' { rd := [], sl := [], wr := [], pre := r.pre })
    | _ => none

theorem insN_eq {β : Type} (C : Nat → List PV → Option (Own × PV)) (r : RIns) (nm : Nat) (st : St) (K : St → Rec → Option β) (h : r.op.isCall = false) : insN G r nm st K = insE G C r nm st K := by
  have : opN G r nm st K = opE G C r nm st K := by
    obtain ⟨dst, op, guard, pre⟩ := r
    cases op <;> first | rfl | cases h
  unfold insN insE
  rw [this]

/-- Reads and writes nothing. -/
def quietR (r : Rec) : Bool := match r.rd, r.sl, r.wr, r.ins with
  | [], [], [], none => true
  | _, _, _, _ => false

/-- The operation against those before it, the last one first. -/
def compatR (r : Rec) : Nat → List Rec → Bool
  | k + 1, x :: l => (quietR x || (!x.clash r || r.pre.testBit k)) && compatR r k l
  | 0, _ :: _ => false
  | _, [] => true

noncomputable def opsE {β : Type} (C : Nat → List PV → Option (Own × PV)) : List RIns → Nat → Nat → List Rec → St → (St → Option β) → Option β
  | [], _, _, _, st, K => K st
  | r :: l, nm, k, acc, st, K => forceN nm fun nm' => forceN k fun k' => insE G C r nm' st fun st' rec => match quietR rec || compatR rec k' acc with
    | true => opsE C l (nm' + stride) (k' + 1) (rec :: acc) st' K
    | false => none

noncomputable def callSE {β : Type} (h : RunI) (args : List AV) (dst : Option Nat) (st : St) (K : St → Option β) : Option β :=
  match st with
  | ⟨tm, σ, nx, nt⟩ => match h args σ nx with
    | some (v, σ', nx') => putE ⟨tm, σ', nx', nt⟩ dst v σ' K
    | none => none

noncomputable def callYE {β : Type} (h : RunY) (args : List AV) (dst : Option Nat) (st : St) (K : St → Option β) : Option β :=
  match st with
  | ⟨tm, σ, nx, nt⟩ => match tm.get tdepth markT with
    | .mark 0 => (match h args σ nx with
      | some (v, σ', nx', pd) => forceN pd fun pd' => putE ⟨T.set tdepth tm markT (.mark pd'), σ', nx', nt⟩ dst v σ' K
      | none => none)
    | _ => none

noncomputable def insSE {β : Type} (E : EnvE) (r : RIns) (nm : Nat) (st : St) (K : St → Option β) : Option β :=
  match r.op with
  | .call f args => match evE G st f with
    | .yld b => (match E.yld, r.guard with
      | some (b', h), none => (match b' == b with
        | true => callYE h (args.map (evE G st)) r.dst st K
        | false => none)
      | _, _ => none)
    | fv => match calleeOf fv with
      | some (g, a, b) => (match E.inl g with
        | some h => (match r.guard with
          | none => callSE h (a ++ args.map (evE G st) ++ b) r.dst st K
          | some (t, want) => match guardOn (evE G st (.t t)) want with
            | true => callSE h (a ++ args.map (evE G st) ++ b) r.dst st K
            | false => insE G E.call r nm st fun st' _ => K st')
        | none => insE G E.call r nm st fun st' _ => K st')
      | none => insE G E.call r nm st fun st' _ => K st'
  | _ => insE G E.call r nm st fun st' _ => K st'

noncomputable def insQ {β : Type} (E : EnvE) (r : RIns) (nm : Nat) (st : St) (K : St → Option β) : Option β :=
  match r.op.isCall with
  | true => insSE G E r nm st K
  | false => insN G r nm st fun st' _ => K st'

theorem insQ_eq {β : Type} (E : EnvE) (r : RIns) (nm : Nat) (st : St) (K : St → Option β) : insQ G E r nm st K = insSE G E r nm st K := by
  unfold insQ
  cases h : r.op.isCall with
  | true => rfl
  | false =>
    simp only
    rw [insN_eq G E.call _ _ _ _ h]
    unfold insSE
    cases ho : r.op with
    | call f args => rw [ho] at h; cases h
    | _ => rfl

noncomputable def opsSE {β : Type} (E : EnvE) : List RIns → Nat → St → (St → Option β) → Option β
  | [], _, st, K => K st
  | r :: l, nm, st, K => forceN nm fun nm' => insQ G E r nm' st fun st' => opsSE E l (nm' + stride) st' K

def loopE (live : List Nat) (nrm : Bool) (f : St → Option (Ex × St)) : Nat → St → Option (Ex × St)
  | 0, _ => none
  | n + 1, s => match (match nrm with | true => normK live s f | false => f s) with
    | some (.normal, s') => loopE live nrm f n s'
    | r => r

def endE : Ex → St → Option (AV × Store × Nat × Nat)
  | .normal, ⟨_, σ, nx, _⟩ => some (.pv (.bool true), σ, nx, 0)
  | .ret, ⟨_, σ, nx, _⟩ => some (.pv (.bool false), σ, nx, 1)
  | .exit i, ⟨_, σ, nx, _⟩ => some (.pv (.bool false), σ, nx, i + 2)

def jumpE (tm : T) (nt : Nat) : AV × Store × Nat → Option (Ex × St)
  | (.mark 0, σ, nx) => some (.normal, ⟨tm, σ, nx, nt⟩)
  | (.mark 1, σ, nx) => some (.ret, ⟨tm, σ, nx, nt⟩)
  | (.mark (k + 2), σ, nx) => some (.exit k, ⟨tm, σ, nx, nt⟩)
  | _ => none

noncomputable def evC (fu : Nat) : RC → Bool → EnvE → St → Option (Ex × St)
  | .skip, _, _, st => some (.normal, st)
  | .reg ops draw, _, E, ⟨tm, σ, nx, nt⟩ => forceN (nx + stride * ops.length) fun nx' => (match draw with
    | true => opsE G E.call ops nx 0 [] ⟨tm, σ, nx', nt⟩ fun st => some (.normal, st)
    | false => opsSE G E ops nx ⟨tm, σ, nx', nt⟩ fun st => some (.normal, st))
  | .seq a b, nrm, E, st => match evC fu a nrm E st with
    | some (.normal, st') => evC fu b nrm E st'
    | r => r
  | .cond c a b, nrm, E, st => match evE G st c with
    | .pv (.bool x) => (match x with | true => evC fu a nrm E st | false => evC fu b nrm E st)
    | _ => none
  | .block id b, nrm, E, st => match evC fu b nrm E st with
    | some (.exit i, st') => (match i == id with | true => some (.normal, st') | false => some (.exit i, st'))
    | r => r
  | .loop live b, nrm, E, st => loopE live nrm (fun s => evC fu b nrm E s) fu st
  | .rng f ps as bd, _, E, ⟨tm, σ, nx, nt⟩ => match calleeOf (evE G ⟨tm, σ, nx, nt⟩ f) with
    | some (g, a, b) => (match E.itr g with
      | some it => forceN (nx + 1) fun nx1 => match it nx (fun args σ₁ nx₁ => match args.length == ps.length with
          | true => setPs ps args tm fun tm' => match evC fu as false ⟨E.inl, fun _ => none, none, E.call⟩ ⟨tm', σ₁, nx₁, nt⟩ with
            | some (.normal, s₁) => (match evC fu bd false ⟨E.inl, fun _ => none, none, E.call⟩ s₁ with
              | some (e, s₂) => endE e s₂
              | none => none)
            | _ => none
          | false => none) (a ++ [.yld nx] ++ b) σ nx1 with
        | some r => jumpE tm nt r
        | none => none
      | none => none)
    | none => none
  | .exit id, _, _, st => some (.exit id, st)
  | .scope b, nrm, E, st => evC fu b nrm E st
  | .ret, _, _, st => some (.ret, st)

noncomputable def retIE (rs : List RRes) : Ex × St → Option (AV × Store × Nat)
  | (.exit _, _) => none
  | (_, ⟨tm, σ, nx, nt⟩) => match resAs G ⟨tm, σ, nx, nt⟩ rs with
    | some vs => forceA (resPV vs) fun v => some (v, σ, nx)
    | none => none

noncomputable def retME : Ex × St → Option (AV × Store × Nat)
  | (.exit _, _) => none
  | (_, ⟨tm, σ, nx, _⟩) => forceA (tm.get tdepth markT) fun v => some (v, σ, nx)

noncomputable def retPE (rs : List RRes) : Ex × St → Option PV
  | (.exit _, _) => none
  | (_, st) => match resAs G st rs with
    | some vs => (match pub st.σ 8 (resPV vs) with
      | some (p, _) => some p
      | none => none)
    | none => none

noncomputable def retOE (rs : List RRes) : Ex × St → Option (Own × PV)
  | (.exit _, _) => none
  | (_, st) => match resAs G st rs with
    | some [.own b 0 n] => (match outRows st.σ b with
      | some (es, rows, _) => (match rows.length == n with | true => some ([(0, 0)], .sl es rows) | false => none)
      | none => none)
    | _ => none

/-- The functions of four tables: run on the caller's store; iterators; run by themselves; these hand out a slice of their own. -/
noncomputable def envE (kn : Nat → List PV → Option PV) (ext : Nat → Option RunI) (tab tabI tabC tabO : Nat → Option RFn) (fu : Nat) : Nat → EnvE
  | 0 => ⟨fun _ => none, fun _ => none, none, fun _ _ => none⟩
  | d + 1 => ⟨fun g => match ext g with
      | some r => some r
      | none => match tab g with
        | some c => some fun args σ nx => (match args.length == c.nparams with
          | true => argsAK 0 args .nil fun tm => match evC G fu c.body false (envE kn ext tab tabI tabC tabO fu d) ⟨tm, σ, nx, c.ntmps⟩ with
            | some r => retIE G c.res r
            | none => none
          | false => none)
        | none => none,
    fun g => match tabI g with
      | some c => some fun b h args σ nx => (match args.length == c.nparams with
        | true => argsAK 0 args .nil fun tm => match evC G fu c.body false ⟨(envE kn ext tab tabI tabC tabO fu d).inl, (envE kn ext tab tabI tabC tabO fu d).itr, some (b, h), (envE kn ext tab tabI tabC tabO fu d).call⟩ ⟨T.set tdepth tm markT (.mark 0), σ, nx, c.ntmps⟩ with
          | some r => retME r
          | none => none
        | false => none)
      | none => none, none,
    fun g ps => match kn g ps with
      | some p => some ([], p)
      | none => match tabC g with
      | some c => (match ps.length == c.nparams with
        | true => argsK 0 ps .nil fun tm => match evC G fu c.body true (envE kn ext tab tabI tabC tabO fu d) ⟨tm, [], 0, c.ntmps⟩ with
          | some r => (match retPE G c.res r with | some p => some ([], p) | none => none)
          | none => none
        | false => none)
      | none => match tabO g with
        | some c => (match ps.length == c.nparams with
          | true => argsK 0 ps .nil fun tm => match evC G fu c.body true (envE kn ext tab tabI tabC tabO fu d) ⟨tm, [], 0, c.ntmps⟩ with
            | some r => retOE G c.res r
            | none => none
          | false => none)
        | none => none⟩

end

/-! ### A run's result holds -/
section
variable {P : Program} {G : Gl}

def YLink (hE : RunY) (h : YldF) : Prop := ∀ args σ nx v σ' nx' pd (K : AV → Store → Nat → Nat → Prop), hE args σ nx = some (v, σ', nx', pd) → K v σ' nx' pd → h args σ nx K
def ILink (hE : RunI) (h : List AV → Store → Nat → (AV → Store → Nat → Prop) → Prop) : Prop := ∀ args σ nx v σ' nx' (K : AV → Store → Nat → Prop), hE args σ nx = some (v, σ', nx') → K v σ' nx' → h args σ nx K

structure EnvLink (P : Program) (G : Gl) (EE : EnvE) (E : Env) : Prop where
  inl : ∀ g hE, EE.inl g = some hE → ∃ h, E.inl g = some h ∧ ILink hE h
  noInl : ∀ g, EE.inl g = none → E.inl g = none
  itr : ∀ g it, EE.itr g = some it → ∃ it', E.itr g = some it' ∧ ∀ b hE h, YLink hE h → ILink (it b hE) (it' b h)
  yld : ∀ b hE, EE.yld = some (b, hE) → ∃ h, E.yld = some (b, h) ∧ YLink hE h
  call : ∀ g ps own r, EE.call g ps = some (own, r) → OkC P G g ps own r

theorem opE_sound {β : Type} {C : Nat → List PV → Option (Own × PV)} (hC : ∀ g ps own r, C g ps = some (own, r) → OkC P G g ps own r) {r : RIns} {nm : Nat} {st : St} {K : St → Rec → Option β} {b : β} (h : opE G C r nm st K = some b) :
    ∃ st' rec, K st' rec = some b ∧ ∀ KP : St → Rec → Prop, KP st' rec → opW G (OkC P G) r nm st KP := by
  obtain ⟨tm, σ, nx, nt⟩ := st
  obtain ⟨dst, op, guard, pre⟩ := r
  unfold opE at h
  simp only [evE_eq] at h
  cases op with
  | call f args =>
    simp only at h
    split at h
    · rename_i g a b' hca
      split at h
      · rename_i p hp
        split at h
        · rename_i v c es rows _ _ _ _ hres heq
          cases heq
          simp only [forceN_eq, upAllK_eq, putE_eq] at h
          refine ⟨_, _, h, fun KP hKP => ?_⟩
          unfold opW
          simp only [hca, hp, hres, forceN_eq, upAllK_eq, putK_eq]
          exact hKP
        · cases h
      · rename_i hnp
        split at h
        · rename_i ps m hp
          split at h
          · rename_i own res _ _ _ _ hres heq
            cases heq
            simp only [sealAllK_eq, upAllK_eq, putE_eq] at h
            refine ⟨_, _, h, fun KP hKP => ?_⟩
            unfold opW
            simp only [hca, hnp, hp]
            refine ⟨own, res, hC _ _ _ _ hres, ?_⟩
            simp only [upAllK_eq, sealAllK_eq, putK_eq]
            exact hKP
          · cases h
        · cases h
    · cases h
  | _ =>
    simp only at h
    split at h
    · rename_i e he
      rw [stepE_eq] at he
      simp only [putE_eq] at h
      refine ⟨_, _, h, fun KP hKP => ?_⟩
      unfold opW
      simp only [he, upAllK_eq, putK_eq]
      exact hKP
    · cases h

theorem insE_sound {β : Type} {C : Nat → List PV → Option (Own × PV)} (hC : ∀ g ps own r, C g ps = some (own, r) → OkC P G g ps own r) {r : RIns} {nm : Nat} {st : St} {K : St → Rec → Option β} {b : β} (h : insE G C r nm st K = some b) :
    ∃ st' rec, K st' rec = some b ∧ ∀ KP : St → Rec → Prop, KP st' rec → insW G (OkC P G) r nm st KP := by
  unfold insE at h
  simp only [evE_eq] at h
  unfold insW
  cases hg : r.guard with
  | none => rw [hg] at h; exact opE_sound hC h
  | some tw =>
    obtain ⟨t, want⟩ := tw
    rw [hg] at h
    simp only at h ⊢
    split at h
    · rename_i x hx
      simp only [hx]
      cases x <;> cases want <;> simp only at h ⊢
      · exact opE_sound hC h
      · obtain ⟨tm, σ, nx, nt⟩ := st
        simp only [putE_eq] at h
        simp only [putK_eq]
        exact ⟨_, _, h, fun KP hKP => hKP⟩
      · obtain ⟨tm, σ, nx, nt⟩ := st
        simp only [putE_eq] at h
        simp only [putK_eq]
        exact ⟨_, _, h, fun KP hKP => hKP⟩
      · exact opE_sound hC h
    · rename_i hx
      simp only [hx]
      obtain ⟨tm, σ, nx, nt⟩ := st
      simp only [putE_eq] at h
      simp only [putK_eq]
      exact ⟨_, _, h, fun KP hKP => hKP⟩
    · cases h

theorem quiet_clash {a b : Rec} (h : quietR a = true) : a.clash b = false ∧ b.clash a = false := by
  obtain ⟨rd, sl, wr, pre, ins⟩ := a
  unfold quietR at h
  split at h
  · rename_i h1 h2 h3 h4
    simp only at h1 h2 h3 h4
    subst h1; subst h2; subst h3; subst h4
    have m1 : ∀ l : List Nat, meets l [] = false := fun l => by simp [meets]
    have m2 : ∀ l : List Nat, meets [] l = false := fun l => rfl
    refine ⟨?_, ?_⟩
    · simp only [Rec.clash, m2, Rec.insMeets, Bool.or_false, Bool.false_or]
      cases hb : b.ins with
      | none => rfl
      | some x => rfl
    · simp only [Rec.clash, m1, Rec.insMeets, Bool.or_false, Bool.false_or]
      cases hb : b.ins with
      | none => rfl
      | some x => rfl
  · cases h

/-- Whatever two operations clash stand in a fixed order. -/
def Apart (recs : List Rec) : Prop := ∀ (i j : Nat) (x r : Rec), i < j → recs[i]? = some x → recs[j]? = some r → x.clash r = true → r.pre.testBit i = true

theorem compatOne_mk {r : Rec} : ∀ (l : List Rec) (i : Nat), (∀ k x, l[k]? = some x → x.clash r = true → r.pre.testBit (i + k) = true) → compatOne r i l = true
  | [], _, _ => rfl
  | y :: l, i, h => by
    simp only [compatOne, Bool.and_eq_true, Bool.or_eq_true, Bool.not_eq_true']
    refine ⟨?_, compatOne_mk l (i + 1) fun k x hx hc => by have := h (k + 1) x (by simpa using hx) hc; rwa [show i + 1 + k = i + (k + 1) by omega]⟩
    cases hc : y.clash r with
    | false => exact .inl rfl
    | true => exact .inr (h 0 y rfl hc)

theorem compat_mk : ∀ (l done : List Rec), Apart (done ++ l) → compat done l = true
  | [], _, _ => rfl
  | r :: l, done, h => by
    simp only [compat, Bool.and_eq_true]
    refine ⟨compatOne_mk done 0 fun k x hx hc => ?_, compat_mk l _ (by simpa using h)⟩
    have hk := (List.getElem?_eq_some_iff.1 hx).1
    have := h k done.length x r hk (by rw [List.getElem?_append_left hk]; exact hx) (by simp) hc
    simpa using this

theorem compatR_spec {r : Rec} : ∀ (k : Nat) (acc : List Rec), compatR r k acc = true → acc.length ≤ k ∧ ∀ i x, acc[i]? = some x → x.clash r = true → r.pre.testBit (k - 1 - i) = true
  | k, [], _ => ⟨Nat.zero_le _, fun i x h => by simp at h⟩
  | 0, _ :: _, h => by simp [compatR] at h
  | k + 1, y :: acc, h => by
    simp only [compatR, Bool.and_eq_true, Bool.or_eq_true, Bool.not_eq_true'] at h
    obtain ⟨h1, h2⟩ := compatR_spec k acc h.2
    refine ⟨by simp; omega, fun i x hx hc => ?_⟩
    cases i with
    | zero =>
      simp at hx; subst hx
      rcases h.1 with hq | hq | hq
      · rw [(quiet_clash hq).1] at hc; cases hc
      · rw [hq] at hc; cases hc
      · simpa using hq
    | succ i =>
      have := h2 i x (by simpa using hx) hc
      rwa [show k + 1 - 1 - (i + 1) = k - 1 - i by omega]

theorem Apart.push {acc : List Rec} {r : Rec} (h : Apart acc.reverse) (hr : (quietR r || compatR r acc.length acc) = true) : Apart (r :: acc).reverse := by
  intro i j x y hij hx hy hc
  rw [List.reverse_cons] at hx hy
  have hj := (List.getElem?_eq_some_iff.1 hy).1
  simp only [List.length_append, List.length_reverse, List.length_cons, List.length_nil] at hj
  by_cases e : j = acc.length
  · subst e
    rw [List.getElem?_append_right (by simp)] at hy
    simp at hy; subst hy
    rw [List.getElem?_append_left (by simpa using hij)] at hx
    rw [Bool.or_eq_true] at hr
    rcases hr with hq | hq
    · rw [(quiet_clash hq).2] at hc; cases hc
    · obtain ⟨_, h2⟩ := compatR_spec _ _ hq
      rw [List.getElem?_reverse hij] at hx
      have := h2 _ x hx hc
      rwa [show acc.length - 1 - (acc.length - 1 - i) = i by omega] at this
  · rw [List.getElem?_append_left (by simp; omega)] at hx hy
    exact h i j x y hij hx hy hc

theorem opsE_sound {β : Type} {C : Nat → List PV → Option (Own × PV)} (hC : ∀ g ps own r, C g ps = some (own, r) → OkC P G g ps own r) {b : β} : ∀ (l : List RIns) (nm : Nat) (acc : List Rec) (st : St) (K : St → Option β), Apart acc.reverse → opsE G C l nm acc.length acc st K = some b →
    ∃ st', K st' = some b ∧ ∀ KP : St → Prop, KP st' → opsW G (OkC P G) true l nm acc.reverse st KP
  | [], nm, acc, st, K, ha, h => by
    simp only [opsE] at h
    exact ⟨st, h, fun KP hKP => by simp only [opsW, compat_mk acc.reverse [] (by simpa using ha)]; exact hKP⟩
  | r :: l, nm, acc, st, K, ha, h => by
    simp only [opsE, forceN_eq] at h
    obtain ⟨st₁, rec, h1, h2⟩ := insE_sound hC h
    split at h1
    · rename_i hr
      obtain ⟨st₂, h3, h4⟩ := opsE_sound hC l _ (rec :: acc) _ _ (ha.push hr) (by simpa using h1)
      exact ⟨st₂, h3, fun KP hKP => by simp only [opsW, forceN_eq]; exact h2 _ (by have := h4 KP hKP; simpa using this)⟩
    · cases h1

theorem insSE_sound {β : Type} {EE : EnvE} {E : Env} (hL : EnvLink P G EE E) {r : RIns} {nm : Nat} {st : St} {K : St → Option β} {b : β} (h : insSE G EE r nm st K = some b) :
    ∃ st', K st' = some b ∧ ∀ KP : St → Prop, KP st' → insS G (OkC P G) E r nm st KP := by
  have plain : insE G EE.call r nm st (fun st' _ => K st') = some b → ∃ st', K st' = some b ∧ ∀ KP : St → Prop, KP st' → insW G (OkC P G) r nm st (fun st' _ => KP st') := fun h => by
    obtain ⟨st', rec, h1, h2⟩ := insE_sound hL.call h
    exact ⟨st', h1, fun KP hKP => h2 _ hKP⟩
  unfold insSE at h
  simp only [evE_eq] at h
  unfold insS
  split at h
  · rename_i f args hop
    simp only [hop]
    split at h
    · rename_i y hy
      simp only [hy]
      split at h
      · rename_i b' hE hEy hgd
        split at h
        · rename_i hbb
          obtain ⟨hh, hhy, hlink⟩ := hL.yld _ _ hEy
          obtain ⟨tm, σ, nx, nt⟩ := st
          simp only [callYE] at h
          split at h
          · rename_i hmk
            split at h
            · rename_i v σ' nx' pd hrun
              simp only [forceN_eq, putE_eq] at h
              refine ⟨_, h, fun KP hKP => ?_⟩
              simp only [hhy, hgd, hbb, callY, hmk]
              refine hlink _ _ _ _ _ _ _ _ hrun ?_
              simp only [forceN_eq, setK_eq, putK_eq]
              exact hKP
            · cases h
          · cases h
        · cases h
      · cases h
    · rename_i hne
      split at h
      · rename_i g a b' hca
        split at h
        · rename_i hE hEi
          obtain ⟨hh, hhi, hlink⟩ := hL.inl _ _ hEi
          have inlined : callSE hE (a ++ args.map (st.ev G) ++ b') r.dst st K = some b → ∃ st', K st' = some b ∧ ∀ KP : St → Prop, KP st' → callS hh (a ++ args.map (st.ev G) ++ b') r.dst st KP := by
            intro h
            obtain ⟨tm, σ, nx, nt⟩ := st
            simp only [callSE] at h
            split at h
            · rename_i v σ' nx' hrun
              simp only [putE_eq] at h
              refine ⟨_, h, fun KP hKP => ?_⟩
              simp only [callS]
              refine hlink _ _ _ _ _ _ _ hrun ?_
              simp only [putK_eq]
              exact hKP
            · cases h
          split at h
          · rename_i hgd
            obtain ⟨st', h1, h2⟩ := inlined h
            refine ⟨st', h1, fun KP hKP => ?_⟩
            split
            · rename_i y hy; exact absurd hy (hne y)
            · simp only [hca, hhi, hgd]
              exact h2 KP hKP
          · rename_i t want hgd
            split at h
            · rename_i hon
              obtain ⟨st', h1, h2⟩ := inlined h
              refine ⟨st', h1, fun KP hKP => ?_⟩
              split
              · rename_i y hy; exact absurd hy (hne y)
              · simp only [hca, hhi, hgd, hon]
                exact h2 KP hKP
            · rename_i hon
              obtain ⟨st', h1, h2⟩ := plain h
              refine ⟨st', h1, fun KP hKP => ?_⟩
              split
              · rename_i y hy; exact absurd hy (hne y)
              · simp only [hca, hhi, hgd, hon]
                exact h2 KP hKP
        · rename_i hEi
          obtain ⟨st', h1, h2⟩ := plain h
          refine ⟨st', h1, fun KP hKP => ?_⟩
          split
          · rename_i y hy; exact absurd hy (hne y)
          · simp only [hca, hL.noInl _ hEi]
            exact h2 KP hKP
      · rename_i hca
        obtain ⟨st', h1, h2⟩ := plain h
        refine ⟨st', h1, fun KP hKP => ?_⟩
        split
        · rename_i y hy; exact absurd hy (hne y)
        · simp only [hca]
          exact h2 KP hKP
  · rename_i hno
    obtain ⟨st', h1, h2⟩ := plain h
    refine ⟨st', h1, fun KP hKP => ?_⟩
    split
    · rename_i f args hop; exact absurd hop (hno f args)
    · exact h2 KP hKP

theorem opsSE_sound {β : Type} {EE : EnvE} {E : Env} (hL : EnvLink P G EE E) {b : β} : ∀ (l : List RIns) (nm : Nat) (st : St) (K : St → Option β), opsSE G EE l nm st K = some b →
    ∃ st', K st' = some b ∧ ∀ KP : St → Prop, KP st' → opsS G (OkC P G) E l nm st KP
  | [], nm, st, K, h => ⟨st, h, fun KP hKP => hKP⟩
  | r :: l, nm, st, K, h => by
    simp only [opsSE, forceN_eq, insQ_eq] at h
    obtain ⟨st₁, h1, h2⟩ := insSE_sound hL h
    obtain ⟨st₂, h3, h4⟩ := opsSE_sound hL l _ _ _ h1
    exact ⟨st₂, h3, fun KP hKP => by simp only [opsS, forceN_eq]; exact h2 _ (h4 KP hKP)⟩

theorem evC_sound {fu : Nat} : ∀ (rc : RC) (nrm : Bool) (EE : EnvE) (E : Env), EnvLink P G EE E → ∀ (st : St) (e : Ex) (st' : St), evC G fu rc nrm EE st = some (e, st') → ∀ Q : Ex → St → Prop, Q e st' → aw G (OkC P G) rc nrm E Q st := by
  intro rc
  induction rc with
  | skip => intro nrm EE E hL st e st' h Q hQ; simp only [evC] at h; cases h; exact hQ
  | reg ops draw =>
    intro nrm EE E hL st e st' h Q hQ
    obtain ⟨tm, σ, nx, nt⟩ := st
    simp only [evC, forceN_eq] at h
    simp only [aw, forceN_eq]
    cases draw with
    | true =>
      obtain ⟨st₁, h1, h2⟩ := opsE_sound hL.call ops nx [] _ _ (fun i j x r _ hx => by simp at hx) h
      cases h1
      exact h2 _ hQ
    | false =>
      obtain ⟨st₁, h1, h2⟩ := opsSE_sound hL _ _ _ _ h
      cases h1
      exact h2 _ hQ
  | seq a b iha ihb =>
    intro nrm EE E hL st e st' h Q hQ
    simp only [evC] at h
    simp only [aw]
    split at h
    · rename_i s₁ hs₁
      exact iha nrm EE E hL st _ _ hs₁ _ (ihb nrm EE E hL s₁ e st' h Q hQ)
    · rename_i hne
      refine iha nrm EE E hL st e st' h _ ?_
      cases e with
      | normal => exact absurd h (hne st')
      | exit i => exact hQ
      | ret => exact hQ
  | cond c a b iha ihb =>
    intro nrm EE E hL st e st' h Q hQ
    simp only [evC, evE_eq] at h
    simp only [aw, condW]
    split at h
    · rename_i x hx
      rw [hx]
      cases x
      · exact ihb nrm EE E hL st e st' h Q hQ
      · exact iha nrm EE E hL st e st' h Q hQ
    · cases h
  | block id b ih =>
    intro nrm EE E hL st e st' h Q hQ
    simp only [evC] at h
    simp only [aw]
    split at h
    · rename_i i s₁ hs₁
      refine ih nrm EE E hL st _ _ hs₁ _ ?_
      simp only [Ex.inBlock]
      split at h <;> cases h
      · rename_i hi; simp only [hi]; exact hQ
      · rename_i hi; simp only [hi]; exact hQ
    · rename_i hne
      refine ih nrm EE E hL st e st' h _ ?_
      cases e with
      | normal => exact hQ
      | exit i => exact absurd h (hne i st')
      | ret => exact hQ
  | loop live b ih =>
    intro nrm EE E hL st e st' h Q hQ
    simp only [evC] at h
    simp only [aw]
    intro X hX
    have gen : ∀ (n : Nat) (s : St), loopE live nrm (fun s => evC G fu b nrm EE s) n s = some (e, st') → X s := by
      intro n
      induction n with
      | zero => intro s h; simp [loopE] at h
      | succ n ihn =>
        intro s h
        refine hX s ?_
        simp only [loopE] at h
        cases nrm with
        | true =>
          simp only [normK_eq] at h ⊢
          split at h
          · rename_i s₁ hs₁
            exact ih true EE E hL _ _ _ hs₁ _ (ihn s₁ h)
          · rename_i hne
            refine ih true EE E hL _ _ _ h _ ?_
            cases e with
            | normal => exact absurd h (hne st')
            | exit i => exact hQ
            | ret => exact hQ
        | false =>
          simp only at h ⊢
          split at h
          · rename_i s₁ hs₁
            exact ih false EE E hL _ _ _ hs₁ _ (ihn s₁ h)
          · rename_i hne
            refine ih false EE E hL _ _ _ h _ ?_
            cases e with
            | normal => exact absurd h (hne st')
            | exit i => exact hQ
            | ret => exact hQ
    exact gen _ _ h
  | rng f ps a b iha ihb =>
    intro nrm EE E hL st e st' h Q hQ
    obtain ⟨tm, σ, nx, nt⟩ := st
    simp only [evC, evE_eq] at h
    simp only [aw]
    split at h
    · rename_i g xs ys hca
      simp only [hca]
      split at h
      · rename_i it hit
        obtain ⟨it', hit', hlink⟩ := hL.itr _ _ hit
        simp only [hit', forceN_eq] at h ⊢
        split at h
        · rename_i r hr
          obtain ⟨v, σ', nx'⟩ := r
          have hL' : EnvLink P G ⟨EE.inl, fun _ => none, none, EE.call⟩ ⟨E.inl, fun _ => none, none⟩ := ⟨hL.inl, hL.noInl, (fun _ _ h => by cases h), (fun _ _ h => by cases h), hL.call⟩
          refine hlink _ _ _ ?_ _ _ _ _ _ _ _ hr ?_
          · intro args σ₁ nx₁ v σ₂ nx₂ pd K hrun hK
            dsimp only at hrun ⊢
            split at hrun
            · rename_i hlen
              simp only [hlen]
              rw [setPs_eq] at hrun ⊢
              split at hrun
              · rename_i s₁ hs₁
                refine iha false _ _ hL' _ _ _ hs₁ _ ?_
                simp only [Ex.then]
                split at hrun
                · rename_i e₂ s₂ hs₂
                  refine ihb false _ _ hL' _ _ _ hs₂ _ ?_
                  obtain ⟨tm₂, σ₃, nx₃, nt₃⟩ := s₂
                  cases e₂ <;> simp only [endE] at hrun <;> cases hrun <;> exact hK
                · cases hrun
              · cases hrun
            · cases hrun
          · unfold jumpE at h
            unfold jumpW
            split at h
            · rename_i heq; cases heq; cases h; exact hQ
            · rename_i heq; cases heq; cases h; exact hQ
            · rename_i heq; cases heq; cases h; exact hQ
            · cases h
        · cases h
      · cases h
    · cases h
  | exit id => intro nrm EE E hL st e st' h Q hQ; simp only [evC] at h; cases h; exact hQ
  | scope b ih => intro nrm EE E hL st e st' h Q hQ; simp only [evC] at h; exact ih nrm EE E hL st e st' h Q hQ
  | ret => intro nrm EE E hL st e st' h Q hQ; simp only [evC] at h; cases h; exact hQ

theorem envE_link (hm : P.follows .mixedOrders = true) {kn : Nat → List PV → Option PV} (hkn : ∀ g ps r, kn g ps = some r → OkC P G g ps [] r) {ext : Nat → Option RunI} (hext : InlOk P G fun g => (ext g).map extH) {tab tabI tabC tabO : Nat → Option RFn} (htab : ∀ g c, tab g = some c → chkFn P g c = true) (htabI : ∀ g c, tabI g = some c → chkItr P g c = true) (htabC : ∀ g c, tabC g = some c → chkFn P g c = true) (htabO : ∀ g c, tabO g = some c → chkFn P g c = true) {fu : Nat} :
    ∀ d, EnvLink P G (envE G kn ext tab tabI tabC tabO fu d) (envD G (OkC P G) ext tab tabI d)
  | 0 => ⟨(fun _ _ h => by cases h), fun _ _ => rfl, (fun _ _ h => by cases h), (fun _ _ h => by cases h), (fun _ _ _ _ h => by cases h)⟩
  | d + 1 => by
    have ih := envE_link hm hkn hext htab htabI htabC htabO (fu := fu) d
    refine ⟨fun g hE h => ?_, fun g h => ?_, fun g it h => ?_, (fun _ _ h => by cases h), fun g ps own r h => ?_⟩
    · simp only [envE] at h
      simp only [envD]
      cases hx : ext g with
      | some r =>
        rw [hx] at h
        simp only at h
        cases h
        exact ⟨_, rfl, fun args σ nx v σ' nx' K hr hK => by simp only [extH, hr]; exact hK⟩
      | none =>
        rw [hx] at h
        simp only at h ⊢
        split at h
        · rename_i c hc
          cases h
          rw [hc]
          refine ⟨_, rfl, fun args σ nx v σ' nx' K hr hK => ?_⟩
          dsimp only at hr ⊢
          split at hr
          · rename_i hlen
            simp only [hlen]
            rw [argsAK_eq] at hr ⊢
            split at hr
            · rename_i r hr'
              obtain ⟨e, tm, σ₁, nx₁, nt⟩ := r
              refine evC_sound _ _ _ _ ih _ _ _ hr' _ ?_
              cases e with
              | exit i => simp [retIE] at hr
              | _ =>
                simp only [retIE] at hr
                simp only [retI]
                split at hr
                · rename_i vs hvs
                  simp only [hvs, forceA_eq] at hr ⊢
                  cases hr
                  exact hK
                · cases hr
            · cases hr
          · cases hr
        · cases h
    · simp only [envE] at h
      simp only [envD]
      cases hx : ext g with
      | some r => rw [hx] at h; cases h
      | none =>
        rw [hx] at h
        simp only at h ⊢
        split at h
        · cases h
        · rename_i hc; rw [hc]
    · simp only [envE] at h
      simp only [envD]
      split at h
      · rename_i c hc
        cases h
        rw [hc]
        refine ⟨_, rfl, fun b hE hh hY args σ nx v σ' nx' K hr hK => ?_⟩
        dsimp only at hr ⊢
        split at hr
        · rename_i hlen
          simp only [hlen]
          rw [argsAK_eq] at hr ⊢
          rw [setK_eq]
          split at hr
          · rename_i r hr'
            obtain ⟨e, tm, σ₁, nx₁, nt⟩ := r
            have hL' : EnvLink P G ⟨(envE G kn ext tab tabI tabC tabO fu d).inl, (envE G kn ext tab tabI tabC tabO fu d).itr, some (b, hE), (envE G kn ext tab tabI tabC tabO fu d).call⟩ ⟨(envD G (OkC P G) ext tab tabI d).inl, (envD G (OkC P G) ext tab tabI d).itr, some (b, hh)⟩ :=
              ⟨ih.inl, ih.noInl, ih.itr, fun b' h' e => by cases e; exact ⟨hh, rfl, hY⟩, ih.call⟩
            refine evC_sound _ _ _ _ hL' _ _ _ hr' _ ?_
            cases e with
            | exit i => simp [retME] at hr
            | _ =>
              simp only [retME, forceA_eq] at hr
              simp only [retM, forceA_eq]
              cases hr
              exact hK
          · cases hr
        · cases hr
      · cases h
    · simp only [envE] at h
      cases hk : kn g ps with
      | some p0 => rw [hk] at h; simp only at h; cases h; exact hkn g ps _ hk
      | none =>
      rw [hk] at h
      simp only at h
      split at h
      · rename_i c hc
        split at h
        · rename_i hlen
          rw [beq_iff_eq] at hlen
          rw [argsK_eq] at h
          split at h
          · rename_i r' hr'
            obtain ⟨e, st⟩ := r'
            split at h
            · rename_i p hp
              cases h
              refine ok_of_fnW (c := c) hm (htabC g c hc) hext htab htabI (d := d) hlen ?_
              simp only [fnW, argsK_eq]
              refine evC_sound _ _ _ _ ih _ _ _ hr' _ ?_
              cases e with
              | exit i => simp [retPE] at hp
              | _ =>
                simp only [retPE] at hp
                simp only [retP]
                split at hp
                · rename_i vs hvs
                  simp only [hvs]
                  split at hp
                  · rename_i p' m hp'
                    simp only [hp']
                    cases hp
                    rfl
                  · cases hp
                · cases hp
            · cases h
          · cases h
        · cases h
      · split at h
        · rename_i c hc
          split at h
          · rename_i hlen
            rw [beq_iff_eq] at hlen
            rw [argsK_eq] at h
            split at h
            · rename_i r' hr'
              obtain ⟨e, st⟩ := r'
              cases e with
              | exit i => simp [retOE] at h
              | _ =>
                simp only [retOE] at h
                split at h
                · rename_i b n hvs
                  split at h
                  · rename_i es rows m hf
                    split at h
                    · rename_i hn
                      rw [beq_iff_eq] at hn
                      subst hn
                      cases h
                      refine ok_of_fnO (c := c) hm (htabO g c hc) hext htab htabI (d := d) hlen ?_
                      simp only [fnO, argsK_eq]
                      exact evC_sound _ _ _ _ ih _ _ _ hr' _ ⟨b, m, hvs, hf⟩
                    · cases h
                  · cases h
                · cases h
            · cases h
          · cases h
        · cases h

/-- A run's result is a contract. -/
theorem ok_of_run (hm : P.follows .mixedOrders = true) {kn : Nat → List PV → Option PV} (hkn : ∀ g ps r, kn g ps = some r → OkC P G g ps [] r) {ext : Nat → Option RunI} (hext : InlOk P G fun g => (ext g).map extH) {tab tabI tabC tabO : Nat → Option RFn} (htab : ∀ g c, tab g = some c → chkFn P g c = true) (htabI : ∀ g c, tabI g = some c → chkItr P g c = true) (htabC : ∀ g c, tabC g = some c → chkFn P g c = true) (htabO : ∀ g c, tabO g = some c → chkFn P g c = true) {fu d g : Nat} {ps : List PV} {own : Own} {r : PV}
    (h : (envE G kn ext tab tabI tabC tabO fu d).call g ps = some (own, r)) : OkC P G g ps own r := (envE_link hm hkn hext htab htabI htabC htabO d).call g ps own r h
end
end Go.Ab
