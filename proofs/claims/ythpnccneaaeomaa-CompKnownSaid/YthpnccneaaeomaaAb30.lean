/- One operation in the calculus. Under: nothing. -/
import Derived.Test.YthpnccneaaeomaaAb29
namespace Go.Ab
open Go.RowKit

def chkCall (o : Op) (r : ROp) : Bool :=
  match o, r with
  | .call c, .call f args => (match c.callee with | .value x => chkA x f && chkAs c.args.toList args | _ => false)
  | _, _ => false

def chkGuard (ops : Array Oper) (nt : Nat) (g : Option (Nat × Bool)) (h : Option (Nat × Bool)) : Bool :=
  match g, h with
  | none, none => true
  | some (j, want), some (t, want') => want == want' && decide (t < nt) && (match ops[j]? with | some o => o.dst == some t | none => false)
  | _, _ => false

def chkIns (P : Program) (ops : Array Oper) (nt : Nat) (o : Oper) (r : RIns) : Bool :=
  o.dst == r.dst && (match r.dst with | some d => decide (d < nt) | none => true) && smallT r && chkGuard ops nt o.guard r.guard && (chkOp P o.op r.op || chkCall o.op r.op)

theorem chkBuiltin_noCall {P : Program} {b : Builtin} {ts : List TypeId} {xs : List Operand} {f : RA} {a : List RA} : chkBuiltin P b ts xs (.call f a) = false := by
  unfold chkBuiltin
  split <;> first | rfl | (rename_i he; cases he)

theorem chkOp_noCall {P : Program} {o : Op} {f : RA} {a : List RA} : chkOp P o (.call f a) = false := by
  cases o <;> simp only [chkOp]
  split
  · exact chkBuiltin_noCall
  · rfl

theorem chkOp_noDefer {P : Program} {o : Op} {r : ROp} (h : chkOp P o r = true) : ∀ c, o ≠ .defer c := by
  intro c e
  subst e
  simp [chkOp] at h

section
variable {P : Program} {G : Gl} {B : Nat} {w0 : World} {I0 : Imm} {gh : Gh} {N : Nat → Prop} {s : St} {a : Act} {w w' : World}
variable {ops : Array Oper} {i : Nat} {o : Oper} {r : RIns} {nm n : Nat} {d : Dat} {ro : Option Nat} {Q : Exit → Act → World → Prop} {K : Act → World → Prop}

theorem chkIns_spec (hk : chkIns P ops s.nt o r = true) : o.dst = r.dst ∧ (∀ d, r.dst = some d → d < s.nt ∧ d < 1024) ∧ smallT r = true ∧ chkGuard ops s.nt o.guard r.guard = true ∧ (chkOp P o.op r.op = true ∨ chkCall o.op r.op = true) := by
  simp only [chkIns, Bool.and_eq_true, beq_iff_eq, Bool.or_eq_true] at hk
  obtain ⟨⟨⟨⟨h1, h2⟩, h3⟩, h4⟩, h5⟩ := hk
  refine ⟨h1, fun d hd => ⟨?_, (smallT_spec h3).2 d hd⟩, h3, h4, h5⟩
  rw [hd] at h2; simpa using h2

/-- The guard as the model sees it. -/
theorem wanted_of (h : Sim P G B w0 I0 gh N s a w) (hg : chkGuard ops s.nt o.guard r.guard = true) (hs : smallT r = true) {b : Bool}
    (hv : ∀ t want, r.guard = some (t, want) → s.ev G (.t t) = .pv (.bool (if b then want else !want))) (hno : b = false → r.guard ≠ none) : Region.wanted o (yielded ops a.tmps) = b := by
  obtain ⟨I, ι, D, h⟩ := h
  unfold chkGuard at hg
  split at hg
  · rename_i h1 h2
    cases b
    · exact absurd h2 (hno rfl)
    · simp [Region.wanted, h1]
  · rename_i j want t want' h1 h2
    simp only [Bool.and_eq_true, beq_iff_eq, decide_eq_true_eq] at hg
    obtain ⟨⟨rfl, hlt⟩, hj⟩ := hg
    split at hj
    · rename_i oj hoj
      have ht : t < 1024 := (smallT_spec hs).1 t (List.mem_append_right _ (by rw [h2]; simp))
      have hrep := h.tm t ht
      have := hv t want h2
      simp only [St.ev] at this
      rw [this] at hrep
      have hb := inv_bool hrep
      have hts : t < a.tmps.size := by rw [h.size]; exact hlt
      have hget : a.tmps[t]? = some (.bool (if b then want else !want)) := by
        rw [← hb]; simp [Array.getD, hts]
      have hd : oj.dst = some t := by simpa using hj
      have : yielded ops a.tmps j = some (if b then want else !want) := by
        simp [yielded, hoj, hd, hget]
      simp only [Region.wanted, h1, this]
      cases b <;> cases want <;> rfl
    · cases hj
  · cases hg

/-- A guard that was left out itself. -/
theorem wanted_undef (h : Sim P G B w0 I0 gh N s a w) (hg : chkGuard ops s.nt o.guard r.guard = true) (hs : smallT r = true) {t : Nat} {want : Bool} (hgd : r.guard = some (t, want)) (hv : s.ev G (.t t) = .tup []) : Region.wanted o (yielded ops a.tmps) = false := by
  obtain ⟨I, ι, D, h⟩ := h
  unfold chkGuard at hg
  split at hg
  · rename_i h1 h2; rw [h2] at hgd; cases hgd
  · rename_i j want' t' want'' h1 h2
    rw [h2] at hgd
    cases hgd
    simp only [Bool.and_eq_true, beq_iff_eq, decide_eq_true_eq] at hg
    obtain ⟨⟨rfl, hlt⟩, hj⟩ := hg
    split at hj
    · rename_i oj hoj
      have ht : t < 1024 := (smallT_spec hs).1 t (List.mem_append_right _ (by rw [h2]; simp))
      have hrep := h.tm t ht
      simp only [St.ev] at hv
      rw [hv] at hrep
      have hts : t < a.tmps.size := by rw [h.size]; exact hlt
      have hget : a.tmps[t]? = some (a.tmps.getD t undef) := by simp [Array.getD, hts]
      generalize a.tmps.getD t undef = x at hrep hget
      cases hrep with
      | tup hl _ =>
        have hd : oj.dst = some t := by simpa using hj
        have : yielded ops a.tmps j = none := by simp [yielded, hoj, hd, hget]
        simp only [Region.wanted, h1, this]
        rfl
    · cases hj
  · cases hg

theorem callee_rep {I : Imm} {ι : Nat → Option Nat} {σ : Store} {D : Nat → Prop} {fv : AV} {xv : Value} {g : Nat} {fa fb : List AV} (hca : calleeOf fv = some (g, fa, fb)) (hfrep : RepA w I ι σ D xv fv) :
    ∃ xs ys : Array Value, xv = .func (.func g) xs ys ∧ xs.size = fa.length ∧ ys.size = fb.length ∧
      (∀ (j : Nat) (z : Value) (q : AV), xs[j]? = some z → fa[j]? = some q → RepA w I ι σ D z q) ∧ (∀ (j : Nat) (z : Value) (q : AV), ys[j]? = some z → fb[j]? = some q → RepA w I ι σ D z q) := by
  unfold calleeOf at hca
  split at hca
  · cases hca
    cases hfrep with
    | func hl hl' h1 h2 => exact ⟨_, _, rfl, hl, hl', h1, h2⟩
  · cases hca
    cases hfrep with
    | pv hfrep =>
      cases hfrep with
      | func hl hl' h1 h2 =>
        refine ⟨_, _, rfl, by simpa using hl, by simpa using hl', fun j z q hz hq => ?_, fun j z q hz hq => ?_⟩
        · rw [List.getElem?_map, Option.map_eq_some_iff] at hq
          obtain ⟨q', hq', rfl⟩ := hq
          exact .pv (h1 j z q' hz hq')
        · rw [List.getElem?_map, Option.map_eq_some_iff] at hq
          obtain ⟨q', hq', rfl⟩ := hq
          exact .pv (h2 j z q' hz hq')
  · cases hca

theorem what_wp (ho : ops[i]? = some o) (hk : chkIns P ops s.nt o r = true) (hw : WhatD G (OkC P G) r nm s d) (hsim : Sim P G B w0 I0 gh N s a w) (hN : ∀ b, N b → ¬ Names nm b) (hbd : ∃ m, ∀ b, N b → b < m) (hn0 : gh.n0 ≤ nm)
    (hK : ∀ a' w', Sim P G B w0 I0 gh (fun b => N b ∨ Names nm b) (afterD s r d) a' w' → K a' w') : wpOpIn (Fw ro) n P ops Q i K a w := by
  obtain ⟨hdst, hdlt, hsm, hg, hop⟩ := chkIns_spec hk
  have hN' : ∀ b, N b → N b ∨ Names nm b := fun b h => .inl h
  have opCase : ∀ e : Eff, (∀ t want, r.guard = some (t, want) → s.ev G (.t t) = .pv (.bool want)) → step s.σ nm (s.ev G) r.op = some e → afterD s r d = putW s r.dst e.v (upAll s.σ e.up) → wpOpIn (Fw ro) n P ops Q i K a w := by
    intro e hgd hst haf
    unfold wpOpIn
    simp only [ho]
    rw [haf] at hK
    rw [wanted_of (b := true) hsim hg hsm (fun t want e => by simpa using hgd t want e) (fun e => by cases e), if_pos rfl]
    have hop' : chkOp P o.op r.op = true := hop.resolve_right fun hcall => by
      unfold chkCall at hcall
      split at hcall
      · rename_i h2; rw [h2] at hst; simp [step] at hst
      · cases hcall
    refine ⟨fun _ _ => trivial, ?_⟩
    rw [Oper.semAt_eq _ _ _ (chkOp_noDefer hop')]
    obtain ⟨I, ι, D, hx⟩ := hsim
    have hnD : ¬ D nm := fun h => hN nm (hx.names nm h) ⟨Nat.le_refl _, by simp [stride]⟩
    obtain ⟨nx, v, w₁, hrun, hnx, I', ι', D', hc, hL, hrep, hD⟩ := step_sound (ρ := a.eval) hx.core hnD (fun o r => hx.eval) (fun _ => rfl) hop' hst
    rw [hrun]
    have hnext : K (a.put o.dst v) w₁ := by
      rw [hdst]
      exact hK _ _ ⟨I', ι', D', hx.put hdlt hc hL hrep (fun b hb => (hD b hb).elim (fun h => .inl (hx.names b h)) .inr) (fun b hb => (hD b hb).elim .inl fun h => .inr (Nat.le_trans hn0 h.1))⟩
    rcases hnx with rfl | ⟨rfl, rfl⟩
    · exact hnext
    · exact hnext
  unfold wpOpIn
  simp only [ho]
  obtain ⟨dv, drd, dsl, dup, dins⟩ := d
  simp only [WhatD] at hw
  cases hw with
  | op hni hgd hst => simpa only [wpOpIn, ho] using opCase _ hgd hst rfl
  | ins hgd hro hm hk' hf hl =>
    rename_i m k x b s' ents
    have := opCase { v := .undef, rd := [b], up := [(b, some (.map (insK s' (s.ev G x) ents)))] } hgd (by rw [hro]; simp only [step, hm, hk', hf, hl]) (by simp only [afterD, after, sealAll, upAll, insU, hf])
    simpa only [wpOpIn, ho] using this
  | call hgd hro hca hnp hp hok hi =>
    rename_i f args g fa fb ps own res
    rw [wanted_of (b := true) hsim hg hsm (fun t want e => by simpa using hgd t want e) (fun e => by cases e), if_pos rfl]
    have hcall : chkCall o.op r.op = true := hop.resolve_left fun h => by rw [hro, chkOp_noCall] at h; cases h
    obtain ⟨I, ι, D, hx⟩ := hsim
    rw [hro] at hcall
    unfold chkCall at hcall
    split at hcall
    · rename_i c f' args' hoc heq
      cases heq
      split at hcall
      · rename_i x hcv
        simp only [Bool.and_eq_true] at hcall
        obtain ⟨hcf, hcas⟩ := hcall
        have hfrep := hx.eval hcf
        obtain ⟨hal, har⟩ := chkAs_rep (ρ := a.eval) (fun o r h => hx.eval h) hcas
        -- the callee
        have hfun : ∃ xs ys : Array Value, a.eval x = .func (.func g) xs ys ∧ xs.size = fa.length ∧ ys.size = fb.length ∧
            (∀ (j : Nat) (z : Value) (q : AV), xs[j]? = some z → fa[j]? = some q → RepA w I ι s.σ D z q) ∧ (∀ (j : Nat) (z : Value) (q : AV), ys[j]? = some z → fb[j]? = some q → RepA w I ι s.σ D z q) := by
          generalize s.ev G f = fv at hca hfrep
          generalize a.eval x = xv at hfrep
          unfold calleeOf at hca
          split at hca
          · cases hca
            cases hfrep with
            | func hl hl' h1 h2 => exact ⟨_, _, rfl, hl, hl', h1, h2⟩
          · cases hca
            cases hfrep with
            | pv hfrep =>
              cases hfrep with
              | func hl hl' h1 h2 =>
                refine ⟨_, _, rfl, by simpa using hl, by simpa using hl', fun j z q hz hq => ?_, fun j z q hz hq => ?_⟩
                · rw [List.getElem?_map, Option.map_eq_some_iff] at hq
                  obtain ⟨q', hq', rfl⟩ := hq
                  exact .pv (h1 j z q' hz hq')
                · rw [List.getElem?_map, Option.map_eq_some_iff] at hq
                  obtain ⟨q', hq', rfl⟩ := hq
                  exact .pv (h2 j z q' hz hq')
          · cases hca
        obtain ⟨xs, ys, hxf, hxl, hyl, hxr, hyr⟩ := hfun
        obtain ⟨hs', hL'⟩ := SimS.sealO hx.core.sims dsl
        have hcore' : Core B w0 I0 w (sealI I ι s.σ dsl) ι (sealAll s.σ dsl) D := by
          obtain ⟨_, b1, b2, b3, b4⟩ := hx.core
          refine ⟨hs', b1, b2, fun r k h => .inl (b3 r k h), fun r k hlt h => ?_⟩
          rcases h with h | ⟨b, o, _, hf, _, hr, _⟩
          · exact b4 r k hlt h
          · have := hx.core.sims.ge b o r hf hr; omega
        have hcs : c.args.size = args.length := by simpa using hal
        -- all arguments
        have hargs : ArgsOk w (sealI I ι s.σ dsl) ((xs ++ c.args.map a.eval) ++ ys) ps := by
          obtain ⟨e1, e2⟩ := pubL_rep (pub_rep hx.core.sims 8) _ _ _ hp (fun b hb => hb)
          simp only [List.length_append, List.length_map] at e1
          refine ⟨by simp only [Array.size_append, Array.size_map]; rw [hxl, hyl, hcs]; exact e1, fun j z q hz hq => ?_⟩
          have hjlt : j < (fa ++ args.map (s.ev G) ++ fb).length := by
            simp only [List.length_append, List.length_map]; rw [e1]; exact (List.getElem?_eq_some_iff.1 hq).1
          refine e2 j _ q z (List.getElem?_eq_getElem hjlt) hq ?_
          have hav := List.getElem?_eq_getElem hjlt
          generalize (fa ++ args.map (s.ev G) ++ fb)[j] = av at hav
          by_cases h1 : j < fa.length
          · rw [List.getElem?_append_left (by simp; omega), List.getElem?_append_left h1] at hav
            rw [Array.getElem?_append_left (by simp; omega), Array.getElem?_append_left (by omega)] at hz
            exact hxr j z av hz hav
          · by_cases h2 : j < fa.length + args.length
            · rw [List.getElem?_append_left (by simp; omega), List.getElem?_append_right (by omega), List.getElem?_map, Option.map_eq_some_iff] at hav
              obtain ⟨q', hq', rfl⟩ := hav
              rw [Array.getElem?_append_left (by simp; omega), Array.getElem?_append_right (by omega), Array.getElem?_map, Option.map_eq_some_iff] at hz
              obtain ⟨z', hz', rfl⟩ := hz
              rw [hxl] at hz'
              exact har (j - fa.length) z' q' (by simpa using hz') hq'
            · rw [List.getElem?_append_right (by simp; omega)] at hav
              rw [Array.getElem?_append_right (by simp; omega)] at hz
              simp only [List.length_append, List.length_map, Array.size_append, Array.size_map] at hav hz
              rw [hxl] at hz
              rw [hcs] at hz
              exact hyr _ z av hz hav
        have hbnd : ∀ a k, sealI I ι s.σ dsl a k → a < w.heap.size := hs'.bnd
        obtain ⟨henter, hcalls⟩ := hok w (sealI I ι s.σ dsl) _ hbnd (hx.glob.mono hL'.keeps) hargs
        refine ⟨fun _ _ => trivial, ?_⟩
        have hnd : ∀ c', o.op ≠ .defer c' := by intro c' e; rw [e] at hoc; cases hoc
        rw [Oper.semAt_eq _ _ _ hnd]
        have hexec : (execOp a.eval o).run P w = .ok (.enter g ((xs ++ c.args.map a.eval) ++ ys)) w := by
          obtain ⟨dst, op, type, pos, aft, guard⟩ := o
          simp only at hoc
          subst hoc
          simp only [execOp, resolve, hcv, hxf, Deferred.ofValue, Sem.run_bind, Sem.run_pure, Result.andThen_ok, invoke]
          exact henter w
        rw [hexec]
        refine ⟨fun h => by simp [Fence.wide] at h, ?_⟩
        have hc' : CallsIn (Fw ro) 0 P g ((xs ++ c.args.map a.eval) ++ ys) w (CallPost w (sealI I ι s.σ dsl) own res) := hcalls
        refine CallsIn.mono (CallsIn.more hc' (Nat.zero_le _)) fun e w₁ he => ?_
        cases e with
        | returned v =>
          obtain ⟨I', hb, h1, h2, hres⟩ := he
          obtain ⟨ι', hc₁, hL₁, hrep⟩ := hcore'.take (nm := nm) (fun b hb' => hN b (hx.names b hb')) hb h1 h2 hres
          have hnext : K (a.put o.dst v) w₁ := by
            rw [hdst]
            refine hK _ _ ⟨I', ι', fun b => D b ∨ Names nm b, ?_⟩
            have hav : (imp own nm res) = (dv, dup) := hi
            rw [hav] at hc₁ hL₁ hrep
            exact hx.put hdlt hc₁ (hL'.trans hL₁) hrep (fun b hb' => hb'.elim (fun h => .inl (hx.names b h)) .inr) (fun b hb' => hb'.elim .inl fun h => .inr (Nat.le_trans hn0 h.1))
          exact hnext
        | panicked ch => exact he.elim
        | outgrown => exact he.elim
      · cases hcall
    · cases hcall
  | prim hgd hro hca hp hr =>
    rename_i f args g fa fb p c es rows
    rw [wanted_of (b := true) hsim hg hsm (fun t want e => by simpa using hgd t want e) (fun e => by cases e), if_pos rfl]
    have hcall : chkCall o.op r.op = true := hop.resolve_left fun h => by rw [hro, chkOp_noCall] at h; cases h
    obtain ⟨I, ι, D, hx⟩ := hsim
    rw [hro] at hcall
    unfold chkCall at hcall
    split at hcall
    · rename_i c' f' args' hoc heq
      cases heq
      split at hcall
      · rename_i x hcv
        simp only [Bool.and_eq_true] at hcall
        obtain ⟨hcf, hcas⟩ := hcall
        have hfrep := hx.eval hcf
        obtain ⟨hal, har⟩ := chkAs_rep (ρ := a.eval) (fun o r h => hx.eval h) hcas
        obtain ⟨xs, ys, hxf, hxl, hyl, hxr, hyr⟩ := callee_rep hca hfrep
        have hcs : c'.args.size = args.length := by simpa using hal
        obtain ⟨m, hm⟩ := hbd
        obtain ⟨henter, hcalls⟩ := hx.glob.prim g p hp _ _ _ _ _ _ hr B w0 I0 (fun v av => gh.gs v av ∨ (∃ t, t < 1024 ∧ v = a.tmps.getD t undef ∧ av = s.tm.get tdepth t) ∨ ∃ i cs, G i = some cs ∧ v = .pointer (some ⟨i, 0, none⟩) ∧ av = .pv (.ref cs))
          w I ι D ((xs ++ c'.args.map a.eval) ++ ys) hx.core ⟨m, fun b hb => hm b (hx.names b hb)⟩ (by simp [hxl, hyl, hcs]) (fun j z q hz hq => by
            by_cases h1 : j < fa.length
            · rw [List.getElem?_append_left (by simp; omega), List.getElem?_append_left h1] at hq
              rw [Array.getElem?_append_left (by simp; omega), Array.getElem?_append_left (by omega)] at hz
              exact hxr j z q hz hq
            · by_cases h2 : j < fa.length + args.length
              · rw [List.getElem?_append_left (by simp; omega), List.getElem?_append_right (by omega), List.getElem?_map, Option.map_eq_some_iff] at hq
                obtain ⟨q', hq', rfl⟩ := hq
                rw [Array.getElem?_append_left (by simp; omega), Array.getElem?_append_right (by omega), Array.getElem?_map, Option.map_eq_some_iff] at hz
                obtain ⟨z', hz', rfl⟩ := hz
                rw [hxl] at hz'
                exact har (j - fa.length) z' q' (by simpa using hz') hq'
              · rw [List.getElem?_append_right (by simp; omega)] at hq
                rw [Array.getElem?_append_right (by simp; omega)] at hz
                simp only [List.length_append, List.length_map, Array.size_append, Array.size_map] at hq hz
                rw [hxl, hcs] at hz
                exact hyr _ z q hz hq)
          (fun v av hv => by
            rcases hv with hv | ⟨t, ht, rfl, rfl⟩ | ⟨i, cs, hi, rfl, rfl⟩
            · exact hx.ghost v av hv
            · exact hx.tm t ht
            · exact .pv (hx.glob.glob i cs hi))
        refine ⟨fun _ _ => trivial, ?_⟩
        have hnd : ∀ c', o.op ≠ .defer c' := by intro c' e; rw [e] at hoc; cases hoc
        rw [Oper.semAt_eq _ _ _ hnd]
        have hexec : (execOp a.eval o).run P w = .ok (.enter g ((xs ++ c'.args.map a.eval) ++ ys)) w := by
          obtain ⟨dst, op, type, pos, aft, guard⟩ := o
          simp only at hoc
          subst hoc
          simp only [execOp, resolve, hcv, hxf, Deferred.ofValue, Sem.run_bind, Sem.run_pure, Result.andThen_ok, invoke]
          exact henter w
        rw [hexec]
        refine ⟨fun h => by simp [Fence.wide] at h, ?_⟩
        have hc' : CallsIn (Fw ro) 0 P g ((xs ++ c'.args.map a.eval) ++ ys) w _ := hcalls
        refine CallsIn.mono (CallsIn.more hc' (Nat.zero_le _)) fun e w₁ he => ?_
        cases e with
        | returned v =>
          obtain ⟨I', ι', hc₁, hrep, hgh, hstill⟩ := he
          have hnext : K (a.put o.dst v) w₁ := by
            rw [hdst]
            have hσ : (putW s r.dst dv (upAll s.σ [(c, some (.arr es rows false))])).σ = upAll s.σ [(c, some (.arr es rows false))] := putW_σ
            refine hK _ _ ⟨I', ι', D, ?_⟩
            show SimX P G B w0 I0 gh _ (putW s r.dst dv (upAll s.σ [(c, some (.arr es rows false))])) _ w₁ I' ι' D
            refine ⟨by rw [hσ]; exact hc₁, fun b hb => .inl (hx.names b hb), ?_, ?_, ⟨fun i cs hi => ?_, hx.glob.prim⟩, fun t ht => ?_, fun x y hg => by rw [hσ]; exact hgh x y (.inl hg), fun b hb => hx.base b hb, fun r o hk => ⟨(hx.kept r o hk).1, hstill r o (hx.kept r o hk).1 (hx.kept r o hk).2⟩, fun p hp => ?_⟩
            · obtain ⟨rs, h1, h2, h3⟩ := hx.dfs
              have : Marks B gh.keep w₁ a.defers := ⟨rs, h1, h2, fun r hr => ⟨(h3 r hr).1, (h3 r hr).2.1, hstill r _ rfl (h3 r hr).2.2⟩⟩
              cases r.dst <;> exact this
            · have := hx.size
              cases r.dst with
              | none => exact this
              | some d => simpa [Act.put, putW] using this
            · have := hgh _ _ (.inr (.inr ⟨i, cs, hi, rfl, rfl⟩))
              cases this with
              | pv h => exact h
            · rw [hσ, get_put ht fun d e => (hdlt d e).2]
              cases hrd : r.dst with
              | none => simp only [Act.put, reduceCtorEq, if_false]; exact hgh _ _ (.inr (.inl ⟨t, ht, rfl, rfl⟩))
              | some d =>
                have hds : d < a.tmps.size := by rw [hx.size]; exact (hdlt d hrd).1
                simp only [Act.put, Option.some.injEq]
                by_cases e : d = t
                · subst e; rw [if_pos rfl]
                  have : (a.tmps.setIfInBounds d v).getD d undef = v := by simp [Array.getD, hds]
                  rw [this]; exact hrep
                · rw [if_neg e]
                  have : (a.tmps.setIfInBounds d v).getD t undef = a.tmps.getD t undef := by
                    simp only [Array.getD_eq_getD_getElem?]
                    rw [Array.getElem?_setIfInBounds_ne e]
                  rw [this]; exact hgh _ _ (.inr (.inl ⟨t, ht, rfl, rfl⟩))
            · obtain ⟨h1, h2, k, h3, h4⟩ := hx.loop p hp
              refine ⟨by rw [putW_nt]; exact h1, h2, k, ?_, hstill _ _ rfl h4⟩
              rw [get_put (by decide) fun d e => (hdlt d e).2, if_neg (fun e => by have := (hdlt _ e).1; simp only [markT] at this h1; omega)]
              exact h3
          exact hnext
        | panicked ch => exact he.elim
        | outgrown => exact he.elim
      · cases hcall
    · cases hcall
  | left hgd hv =>
    rename_i t want
    have hwant : Region.wanted o (yielded ops a.tmps) = false := by
      rcases hv with hv | hv
      · exact wanted_of (b := false) hsim hg hsm (fun t' want' e => by rw [hgd] at e; cases e; simpa using hv) (fun _ e => by rw [hgd] at e; cases e)
      · exact wanted_undef hsim hg hsm hgd hv
    rw [hwant, if_neg (by simp)]
    refine ⟨fun _ _ => trivial, ?_⟩
    obtain ⟨I, ι, D, hx⟩ := hsim
    rw [hdst]
    exact hK _ _ ⟨I, ι, D, hx.put hdlt hx.core Later.refl (.tup (cs := #[]) rfl fun j x q hx => by simp at hx) (fun b hb => .inl (hx.names b hb)) (fun b hb => .inl hb)⟩
end
end Go.Ab
