/- The abstract layer, part 4: values, steps, their soundness. Under: nothing. -/
import Derived.Test.YtnecjlmfpnbooaaGreatDoorAbG3
import Derived.RangeFuncRecord
import Derived.RangeFuncIn
/- One operation in the calculus. Under: nothing. -/
namespace Go.Ab
open Go.RowKit

def chkCall (o : Op) (r : ROp) : Bool :=
  match o, r with
  | .call c, .call f args => (match c.callee with | .value x => chkA x f && chkAs c.args.toList args | _ => false)
  | _, _ => false

def chkGuard (ops : Array Oper) (nt : Nat) (g : Option (Nat × Bool)) (h : Option (Nat × Bool)) : Bool :=
  match g, h with
  | none, none => true
  | some (j, want), some (t, want') => want == want' && decide (t < nt) && (match ops[j]? with | some o => o.dst == some t | none => false)
  | _, _ => false

def chkIns (P : Program) (ops : Array Oper) (nt : Nat) (o : Oper) (r : RIns) : Bool :=
  o.dst == r.dst && (match r.dst with | some d => decide (d < nt) | none => true) && smallT r && chkGuard ops nt o.guard r.guard && (chkOp P o.op r.op || chkCall o.op r.op)

theorem chkBuiltin_noCall {P : Program} {b : Builtin} {ts : List TypeId} {xs : List Operand} {f : RA} {a : List RA} : chkBuiltin P b ts xs (.call f a) = false := by
  unfold chkBuiltin
  split <;> first | rfl | (rename_i he; cases he)

theorem chkOp_noCall {P : Program} {o : Op} {f : RA} {a : List RA} : chkOp P o (.call f a) = false := by
  cases o <;> simp only [chkOp]
  split
  · exact chkBuiltin_noCall
  · rfl

theorem chkOp_noDefer {P : Program} {o : Op} {r : ROp} (h : chkOp P o r = true) : ∀ c, o ≠ .defer c := by
  intro c e
  subst e
  simp [chkOp] at h

section
variable {P : Program} {G : Gl} {B : Nat} {w0 : World} {I0 : Imm} {gh : Gh} {N : Nat → Prop} {s : St} {a : Act} {w w' : World}
variable {ops : Array Oper} {i : Nat} {o : Oper} {r : RIns} {nm n : Nat} {d : Dat} {ro : Option Nat} {Q : Exit → Act → World → Prop} {K : Act → World → Prop}

theorem chkIns_spec (hk : chkIns P ops s.nt o r = true) : o.dst = r.dst ∧ (∀ d, r.dst = some d → d < s.nt ∧ d < 1024) ∧ smallT r = true ∧ chkGuard ops s.nt o.guard r.guard = true ∧ (chkOp P o.op r.op = true ∨ chkCall o.op r.op = true) := by
  simp only [chkIns, Bool.and_eq_true, beq_iff_eq, Bool.or_eq_true] at hk
  obtain ⟨⟨⟨⟨h1, h2⟩, h3⟩, h4⟩, h5⟩ := hk
  refine ⟨h1, fun d hd => ⟨?_, (smallT_spec h3).2 d hd⟩, h3, h4, h5⟩
  rw [hd] at h2; simpa using h2

/-- The guard as the model sees it. -/
theorem wanted_of (h : Sim P G B w0 I0 gh N s a w) (hg : chkGuard ops s.nt o.guard r.guard = true) (hs : smallT r = true) {b : Bool}
    (hv : ∀ t want, r.guard = some (t, want) → s.ev G (.t t) = .pv (.bool (if b then want else !want))) (hno : b = false → r.guard ≠ none) : Region.wanted o (yielded ops a.tmps) = b := by
  obtain ⟨I, ι, D, h⟩ := h
  unfold chkGuard at hg
  split at hg
  · rename_i h1 h2
    cases b
    · exact absurd h2 (hno rfl)
    · simp [Region.wanted, h1]
  · rename_i j want t want' h1 h2
    simp only [Bool.and_eq_true, beq_iff_eq, decide_eq_true_eq] at hg
    obtain ⟨⟨rfl, hlt⟩, hj⟩ := hg
    split at hj
    · rename_i oj hoj
      have ht : t < 1024 := (smallT_spec hs).1 t (List.mem_append_right _ (by rw [h2]; simp))
      have hrep := h.tm t ht
      have := hv t want h2
      simp only [St.ev] at this
      rw [this] at hrep
      have hb := inv_bool hrep
      have hts : t < a.tmps.size := by rw [h.size]; exact hlt
      have hget : a.tmps[t]? = some (.bool (if b then want else !want)) := by
        rw [← hb]; simp [Array.getD, hts]
      have hd : oj.dst = some t := by simpa using hj
      have : yielded ops a.tmps j = some (if b then want else !want) := by
        simp [yielded, hoj, hd, hget]
      simp only [Region.wanted, h1, this]
      cases b <;> cases want <;> rfl
    · cases hj
  · cases hg

/-- A guard that was left out itself. -/
theorem wanted_undef (h : Sim P G B w0 I0 gh N s a w) (hg : chkGuard ops s.nt o.guard r.guard = true) (hs : smallT r = true) {t : Nat} {want : Bool} (hgd : r.guard = some (t, want)) (hv : s.ev G (.t t) = .tup []) : Region.wanted o (yielded ops a.tmps) = false := by
  obtain ⟨I, ι, D, h⟩ := h
  unfold chkGuard at hg
  split at hg
  · rename_i h1 h2; rw [h2] at hgd; cases hgd
  · rename_i j want' t' want'' h1 h2
    rw [h2] at hgd
    cases hgd
    simp only [Bool.and_eq_true, beq_iff_eq, decide_eq_true_eq] at hg
    obtain ⟨⟨rfl, hlt⟩, hj⟩ := hg
    split at hj
    · rename_i oj hoj
      have ht : t < 1024 := (smallT_spec hs).1 t (List.mem_append_right _ (by rw [h2]; simp))
      have hrep := h.tm t ht
      simp only [St.ev] at hv
      rw [hv] at hrep
      have hts : t < a.tmps.size := by rw [h.size]; exact hlt
      have hget : a.tmps[t]? = some (a.tmps.getD t undef) := by simp [Array.getD, hts]
      generalize a.tmps.getD t undef = x at hrep hget
      cases hrep with
      | tup hl _ =>
        have hd : oj.dst = some t := by simpa using hj
        have : yielded ops a.tmps j = none := by simp [yielded, hoj, hd, hget]
        simp only [Region.wanted, h1, this]
        rfl
    · cases hj
  · cases hg

theorem callee_rep {I : Imm} {ι : Nat → Option Nat} {σ : Store} {D : Nat → Prop} {fv : AV} {xv : Value} {g : Nat} {fa fb : List AV} (hca : calleeOf fv = some (g, fa, fb)) (hfrep : RepA w I ι σ D xv fv) :
    ∃ xs ys : Array Value, xv = .func (.func g) xs ys ∧ xs.size = fa.length ∧ ys.size = fb.length ∧
      (∀ (j : Nat) (z : Value) (q : AV), xs[j]? = some z → fa[j]? = some q → RepA w I ι σ D z q) ∧ (∀ (j : Nat) (z : Value) (q : AV), ys[j]? = some z → fb[j]? = some q → RepA w I ι σ D z q) := by
  unfold calleeOf at hca
  split at hca
  · cases hca
    cases hfrep with
    | func hl hl' h1 h2 => exact ⟨_, _, rfl, hl, hl', h1, h2⟩
  · cases hca
    cases hfrep with
    | pv hfrep =>
      cases hfrep with
      | func hl hl' h1 h2 =>
        refine ⟨_, _, rfl, by simpa using hl, by simpa using hl', fun j z q hz hq => ?_, fun j z q hz hq => ?_⟩
        · rw [List.getElem?_map, Option.map_eq_some_iff] at hq
          obtain ⟨q', hq', rfl⟩ := hq
          exact .pv (h1 j z q' hz hq')
        · rw [List.getElem?_map, Option.map_eq_some_iff] at hq
          obtain ⟨q', hq', rfl⟩ := hq
          exact .pv (h2 j z q' hz hq')
  · cases hca

theorem what_wp (ho : ops[i]? = some o) (hk : chkIns P ops s.nt o r = true) (hw : WhatD G (OkC P G) r nm s d) (hsim : Sim P G B w0 I0 gh N s a w) (hN : ∀ b, N b → ¬ Names nm b) (hbd : ∃ m, ∀ b, N b → b < m) (hn0 : gh.n0 ≤ nm)
    (hK : ∀ a' w', Sim P G B w0 I0 gh (fun b => N b ∨ Names nm b) (afterD s r d) a' w' → K a' w') : wpOpIn (Fw ro) n P ops Q i K a w := by
  obtain ⟨hdst, hdlt, hsm, hg, hop⟩ := chkIns_spec hk
  have hN' : ∀ b, N b → N b ∨ Names nm b := fun b h => .inl h
  have opCase : ∀ e : Eff, (∀ t want, r.guard = some (t, want) → s.ev G (.t t) = .pv (.bool want)) → step s.σ nm (s.ev G) r.op = some e → afterD s r d = putW s r.dst e.v (upAll s.σ e.up) → wpOpIn (Fw ro) n P ops Q i K a w := by
    intro e hgd hst haf
    unfold wpOpIn
    simp only [ho]
    rw [haf] at hK
    rw [wanted_of (b := true) hsim hg hsm (fun t want e => by simpa using hgd t want e) (fun e => by cases e), if_pos rfl]
    have hop' : chkOp P o.op r.op = true := hop.resolve_right fun hcall => by
      unfold chkCall at hcall
      split at hcall
      · rename_i h2; rw [h2] at hst; simp [step] at hst
      · cases hcall
    refine ⟨fun _ _ => trivial, ?_⟩
    rw [Oper.semAt_eq _ _ _ (chkOp_noDefer hop')]
    obtain ⟨I, ι, D, hx⟩ := hsim
    have hnD : ¬ D nm := fun h => hN nm (hx.names nm h) ⟨Nat.le_refl _, by simp [stride]⟩
    obtain ⟨nx, v, w₁, hrun, hnx, I', ι', D', hc, hL, hrep, hD⟩ := step_sound (ρ := a.eval) hx.core hnD (fun o r => hx.eval) (fun _ => rfl) hop' hst
    rw [hrun]
    have hnext : K (a.put o.dst v) w₁ := by
      rw [hdst]
      exact hK _ _ ⟨I', ι', D', hx.put hdlt hc hL hrep (fun b hb => (hD b hb).elim (fun h => .inl (hx.names b h)) .inr) (fun b hb => (hD b hb).elim .inl fun h => .inr (Nat.le_trans hn0 h.1))⟩
    rcases hnx with rfl | ⟨rfl, rfl⟩
    · exact hnext
    · exact hnext
  unfold wpOpIn
  simp only [ho]
  obtain ⟨dv, drd, dsl, dup, dins⟩ := d
  simp only [WhatD] at hw
  cases hw with
  | op hni hgd hst => simpa only [wpOpIn, ho] using opCase _ hgd hst rfl
  | ins hgd hro hm hk' hf hl =>
    rename_i m k x b s' ents
    have := opCase { v := .undef, rd := [b], up := [(b, some (.map (insK s' (s.ev G x) ents)))] } hgd (by rw [hro]; simp only [step, hm, hk', hf, hl]) (by simp only [afterD, after, sealAll, upAll, insU, hf])
    simpa only [wpOpIn, ho] using this
  | call hgd hro hca hnp hp hok hi =>
    rename_i f args g fa fb ps own res
    rw [wanted_of (b := true) hsim hg hsm (fun t want e => by simpa using hgd t want e) (fun e => by cases e), if_pos rfl]
    have hcall : chkCall o.op r.op = true := hop.resolve_left fun h => by rw [hro, chkOp_noCall] at h; cases h
    obtain ⟨I, ι, D, hx⟩ := hsim
    rw [hro] at hcall
    unfold chkCall at hcall
    split at hcall
    · rename_i c f' args' hoc heq
      cases heq
      split at hcall
      · rename_i x hcv
        simp only [Bool.and_eq_true] at hcall
        obtain ⟨hcf, hcas⟩ := hcall
        have hfrep := hx.eval hcf
        obtain ⟨hal, har⟩ := chkAs_rep (ρ := a.eval) (fun o r h => hx.eval h) hcas
        -- the callee
        have hfun : ∃ xs ys : Array Value, a.eval x = .func (.func g) xs ys ∧ xs.size = fa.length ∧ ys.size = fb.length ∧
            (∀ (j : Nat) (z : Value) (q : AV), xs[j]? = some z → fa[j]? = some q → RepA w I ι s.σ D z q) ∧ (∀ (j : Nat) (z : Value) (q : AV), ys[j]? = some z → fb[j]? = some q → RepA w I ι s.σ D z q) := by
          generalize s.ev G f = fv at hca hfrep
          generalize a.eval x = xv at hfrep
          unfold calleeOf at hca
          split at hca
          · cases hca
            cases hfrep with
            | func hl hl' h1 h2 => exact ⟨_, _, rfl, hl, hl', h1, h2⟩
          · cases hca
            cases hfrep with
            | pv hfrep =>
              cases hfrep with
              | func hl hl' h1 h2 =>
                refine ⟨_, _, rfl, by simpa using hl, by simpa using hl', fun j z q hz hq => ?_, fun j z q hz hq => ?_⟩
                · rw [List.getElem?_map, Option.map_eq_some_iff] at hq
                  obtain ⟨q', hq', rfl⟩ := hq
                  exact .pv (h1 j z q' hz hq')
                · rw [List.getElem?_map, Option.map_eq_some_iff] at hq
                  obtain ⟨q', hq', rfl⟩ := hq
                  exact .pv (h2 j z q' hz hq')
          · cases hca
        obtain ⟨xs, ys, hxf, hxl, hyl, hxr, hyr⟩ := hfun
        obtain ⟨hs', hL'⟩ := SimS.sealO hx.core.sims dsl
        have hcore' : Core B w0 I0 w (sealI I ι s.σ dsl) ι (sealAll s.σ dsl) D := by
          obtain ⟨_, b1, b2, b3, b4⟩ := hx.core
          refine ⟨hs', b1, b2, fun r k h => .inl (b3 r k h), fun r k hlt h => ?_⟩
          rcases h with h | ⟨b, o, _, hf, _, hr, _⟩
          · exact b4 r k hlt h
          · have := hx.core.sims.ge b o r hf hr; omega
        have hcs : c.args.size = args.length := by simpa using hal
        -- all arguments
        have hargs : ArgsOk w (sealI I ι s.σ dsl) ((xs ++ c.args.map a.eval) ++ ys) ps := by
          obtain ⟨e1, e2⟩ := pubL_rep (pub_rep hx.core.sims 8) _ _ _ hp (fun b hb => hb)
          simp only [List.length_append, List.length_map] at e1
          refine ⟨by simp only [Array.size_append, Array.size_map]; rw [hxl, hyl, hcs]; exact e1, fun j z q hz hq => ?_⟩
          have hjlt : j < (fa ++ args.map (s.ev G) ++ fb).length := by
            simp only [List.length_append, List.length_map]; rw [e1]; exact (List.getElem?_eq_some_iff.1 hq).1
          refine e2 j _ q z (List.getElem?_eq_getElem hjlt) hq ?_
          have hav := List.getElem?_eq_getElem hjlt
          generalize (fa ++ args.map (s.ev G) ++ fb)[j] = av at hav
          by_cases h1 : j < fa.length
          · rw [List.getElem?_append_left (by simp; omega), List.getElem?_append_left h1] at hav
            rw [Array.getElem?_append_left (by simp; omega), Array.getElem?_append_left (by omega)] at hz
            exact hxr j z av hz hav
          · by_cases h2 : j < fa.length + args.length
            · rw [List.getElem?_append_left (by simp; omega), List.getElem?_append_right (by omega), List.getElem?_map, Option.map_eq_some_iff] at hav
              obtain ⟨q', hq', rfl⟩ := hav
              rw [Array.getElem?_append_left (by simp; omega), Array.getElem?_append_right (by omega), Array.getElem?_map, Option.map_eq_some_iff] at hz
              obtain ⟨z', hz', rfl⟩ := hz
              rw [hxl] at hz'
              exact har (j - fa.length) z' q' (by simpa using hz') hq'
            · rw [List.getElem?_append_right (by simp; omega)] at hav
              rw [Array.getElem?_append_right (by simp; omega)] at hz
              simp only [List.length_append, List.length_map, Array.size_append, Array.size_map] at hav hz
              rw [hxl] at hz
              rw [hcs] at hz
              exact hyr _ z av hz hav
        have hbnd : ∀ a k, sealI I ι s.σ dsl a k → a < w.heap.size := hs'.bnd
        obtain ⟨henter, hcalls⟩ := hok w (sealI I ι s.σ dsl) _ hbnd (hx.glob.mono hL'.keeps) hargs
        refine ⟨fun _ _ => trivial, ?_⟩
        have hnd : ∀ c', o.op ≠ .defer c' := by intro c' e; rw [e] at hoc; cases hoc
        rw [Oper.semAt_eq _ _ _ hnd]
        have hexec : (execOp a.eval o).run P w = .ok (.enter g ((xs ++ c.args.map a.eval) ++ ys)) w := by
          obtain ⟨dst, op, type, pos, aft, guard⟩ := o
          simp only at hoc
          subst hoc
          simp only [execOp, resolve, hcv, hxf, Deferred.ofValue, Sem.run_bind, Sem.run_pure, Result.andThen_ok, invoke]
          exact henter w
        rw [hexec]
        refine ⟨fun h => by simp [Fence.wide] at h, ?_⟩
        have hc' : CallsIn (Fw ro) 0 P g ((xs ++ c.args.map a.eval) ++ ys) w (CallPost w (sealI I ι s.σ dsl) own res) := hcalls
        refine CallsIn.mono (CallsIn.more hc' (Nat.zero_le _)) fun e w₁ he => ?_
        cases e with
        | returned v =>
          obtain ⟨I', hb, h1, h2, hres⟩ := he
          obtain ⟨ι', hc₁, hL₁, hrep⟩ := hcore'.take (nm := nm) (fun b hb' => hN b (hx.names b hb')) hb h1 h2 hres
          have hnext : K (a.put o.dst v) w₁ := by
            rw [hdst]
            refine hK _ _ ⟨I', ι', fun b => D b ∨ Names nm b, ?_⟩
            have hav : (imp own nm res) = (dv, dup) := hi
            rw [hav] at hc₁ hL₁ hrep
            exact hx.put hdlt hc₁ (hL'.trans hL₁) hrep (fun b hb' => hb'.elim (fun h => .inl (hx.names b h)) .inr) (fun b hb' => hb'.elim .inl fun h => .inr (Nat.le_trans hn0 h.1))
          exact hnext
        | panicked ch => exact he.elim
        | outgrown => exact he.elim
      · cases hcall
    · cases hcall
  | prim hgd hro hca hp hr =>
    rename_i f args g fa fb p c es rows
    rw [wanted_of (b := true) hsim hg hsm (fun t want e => by simpa using hgd t want e) (fun e => by cases e), if_pos rfl]
    have hcall : chkCall o.op r.op = true := hop.resolve_left fun h => by rw [hro, chkOp_noCall] at h; cases h
    obtain ⟨I, ι, D, hx⟩ := hsim
    rw [hro] at hcall
    unfold chkCall at hcall
    split at hcall
    · rename_i c' f' args' hoc heq
      cases heq
      split at hcall
      · rename_i x hcv
        simp only [Bool.and_eq_true] at hcall
        obtain ⟨hcf, hcas⟩ := hcall
        have hfrep := hx.eval hcf
        obtain ⟨hal, har⟩ := chkAs_rep (ρ := a.eval) (fun o r h => hx.eval h) hcas
        obtain ⟨xs, ys, hxf, hxl, hyl, hxr, hyr⟩ := callee_rep hca hfrep
        have hcs : c'.args.size = args.length := by simpa using hal
        obtain ⟨m, hm⟩ := hbd
        obtain ⟨henter, hcalls⟩ := hx.glob.prim g p hp _ _ _ _ _ _ hr B w0 I0 (fun v av => gh.gs v av ∨ (∃ t, t < 1024 ∧ v = a.tmps.getD t undef ∧ av = s.tm.get tdepth t) ∨ ∃ i cs, G i = some cs ∧ v = .pointer (some ⟨i, 0, none⟩) ∧ av = .pv (.ref cs))
          w I ι D ((xs ++ c'.args.map a.eval) ++ ys) hx.core ⟨m, fun b hb => hm b (hx.names b hb)⟩ (by simp [hxl, hyl, hcs]) (fun j z q hz hq => by
            by_cases h1 : j < fa.length
            · rw [List.getElem?_append_left (by simp; omega), List.getElem?_append_left h1] at hq
              rw [Array.getElem?_append_left (by simp; omega), Array.getElem?_append_left (by omega)] at hz
              exact hxr j z q hz hq
            · by_cases h2 : j < fa.length + args.length
              · rw [List.getElem?_append_left (by simp; omega), List.getElem?_append_right (by omega), List.getElem?_map, Option.map_eq_some_iff] at hq
                obtain ⟨q', hq', rfl⟩ := hq
                rw [Array.getElem?_append_left (by simp; omega), Array.getElem?_append_right (by omega), Array.getElem?_map, Option.map_eq_some_iff] at hz
                obtain ⟨z', hz', rfl⟩ := hz
                rw [hxl] at hz'
                exact har (j - fa.length) z' q' (by simpa using hz') hq'
              · rw [List.getElem?_append_right (by simp; omega)] at hq
                rw [Array.getElem?_append_right (by simp; omega)] at hz
                simp only [List.length_append, List.length_map, Array.size_append, Array.size_map] at hq hz
                rw [hxl, hcs] at hz
                exact hyr _ z q hz hq)
          (fun v av hv => by
            rcases hv with hv | ⟨t, ht, rfl, rfl⟩ | ⟨i, cs, hi, rfl, rfl⟩
            · exact hx.ghost v av hv
            · exact hx.tm t ht
            · exact .pv (hx.glob.glob i cs hi))
        refine ⟨fun _ _ => trivial, ?_⟩
        have hnd : ∀ c', o.op ≠ .defer c' := by intro c' e; rw [e] at hoc; cases hoc
        rw [Oper.semAt_eq _ _ _ hnd]
        have hexec : (execOp a.eval o).run P w = .ok (.enter g ((xs ++ c'.args.map a.eval) ++ ys)) w := by
          obtain ⟨dst, op, type, pos, aft, guard⟩ := o
          simp only at hoc
          subst hoc
          simp only [execOp, resolve, hcv, hxf, Deferred.ofValue, Sem.run_bind, Sem.run_pure, Result.andThen_ok, invoke]
          exact henter w
        rw [hexec]
        refine ⟨fun h => by simp [Fence.wide] at h, ?_⟩
        have hc' : CallsIn (Fw ro) 0 P g ((xs ++ c'.args.map a.eval) ++ ys) w _ := hcalls
        refine CallsIn.mono (CallsIn.more hc' (Nat.zero_le _)) fun e w₁ he => ?_
        cases e with
        | returned v =>
          obtain ⟨I', ι', hc₁, hrep, hgh, hstill⟩ := he
          have hnext : K (a.put o.dst v) w₁ := by
            rw [hdst]
            have hσ : (putW s r.dst dv (upAll s.σ [(c, some (.arr es rows false))])).σ = upAll s.σ [(c, some (.arr es rows false))] := putW_σ
            refine hK _ _ ⟨I', ι', D, ?_⟩
            show SimX P G B w0 I0 gh _ (putW s r.dst dv (upAll s.σ [(c, some (.arr es rows false))])) _ w₁ I' ι' D
            refine ⟨by rw [hσ]; exact hc₁, fun b hb => .inl (hx.names b hb), ?_, ?_, ⟨fun i cs hi => ?_, hx.glob.prim⟩, fun t ht => ?_, fun x y hg => by rw [hσ]; exact hgh x y (.inl hg), fun b hb => hx.base b hb, fun r o hk => ⟨(hx.kept r o hk).1, hstill r o (hx.kept r o hk).1 (hx.kept r o hk).2⟩, fun p hp => ?_⟩
            · obtain ⟨rs, h1, h2, h3⟩ := hx.dfs
              have : Marks B gh.keep w₁ a.defers := ⟨rs, h1, h2, fun r hr => ⟨(h3 r hr).1, (h3 r hr).2.1, hstill r _ rfl (h3 r hr).2.2⟩⟩
              cases r.dst <;> exact this
            · have := hx.size
              cases r.dst with
              | none => exact this
              | some d => simpa [Act.put, putW] using this
            · have := hgh _ _ (.inr (.inr ⟨i, cs, hi, rfl, rfl⟩))
              cases this with
              | pv h => exact h
            · rw [hσ, get_put ht fun d e => (hdlt d e).2]
              cases hrd : r.dst with
              | none => simp only [Act.put, reduceCtorEq, if_false]; exact hgh _ _ (.inr (.inl ⟨t, ht, rfl, rfl⟩))
              | some d =>
                have hds : d < a.tmps.size := by rw [hx.size]; exact (hdlt d hrd).1
                simp only [Act.put, Option.some.injEq]
                by_cases e : d = t
                · subst e; rw [if_pos rfl]
                  have : (a.tmps.setIfInBounds d v).getD d undef = v := by simp [Array.getD, hds]
                  rw [this]; exact hrep
                · rw [if_neg e]
                  have : (a.tmps.setIfInBounds d v).getD t undef = a.tmps.getD t undef := by
                    simp only [Array.getD_eq_getD_getElem?]
                    rw [Array.getElem?_setIfInBounds_ne e]
                  rw [this]; exact hgh _ _ (.inr (.inl ⟨t, ht, rfl, rfl⟩))
            · obtain ⟨h1, h2, k, h3, h4⟩ := hx.loop p hp
              refine ⟨by rw [putW_nt]; exact h1, h2, k, ?_, hstill _ _ rfl h4⟩
              rw [get_put (by decide) fun d e => (hdlt d e).2, if_neg (fun e => by have := (hdlt _ e).1; simp only [markT] at this h1; omega)]
              exact h3
          exact hnext
        | panicked ch => exact he.elim
        | outgrown => exact he.elim
      · cases hcall
    · cases hcall
  | left hgd hv =>
    rename_i t want
    have hwant : Region.wanted o (yielded ops a.tmps) = false := by
      rcases hv with hv | hv
      · exact wanted_of (b := false) hsim hg hsm (fun t' want' e => by rw [hgd] at e; cases e; simpa using hv) (fun _ e => by rw [hgd] at e; cases e)
      · exact wanted_undef hsim hg hsm hgd hv
    rw [hwant, if_neg (by simp)]
    refine ⟨fun _ _ => trivial, ?_⟩
    obtain ⟨I, ι, D, hx⟩ := hsim
    rw [hdst]
    exact hK _ _ ⟨I, ι, D, hx.put hdlt hx.core Later.refl (.tup (cs := #[]) rfl fun j x q hx => by simp at hx) (fun b hb => .inl (hx.names b hb)) (fun b hb => .inl hb)⟩
end
end Go.Ab

/- A region in the calculus, in whatever order. Under: nothing. -/
namespace Go.Ab
open Go.RowKit

def chkAll (P : Program) (ops : Array Oper) (nt : Nat) : List Oper → List RIns → Bool
  | [], [] => true
  | o :: l, r :: m => chkIns P ops nt o r && chkAll P ops nt l m
  | _, _ => false

def preOf (rs : List RIns) : List Edge → Nat
  | [] => 0
  | e :: l => match Region.binds .any e with
    | true => 2 ^ e.on ||| ((rs.getD e.on default).pre ||| preOf rs l)
    | false => preOf rs l

def chkPre (rs : List RIns) : Nat → List Oper → List RIns → Bool
  | _, [], [] => true
  | i, o :: l, r :: m => r.pre == preOf rs o.after.toList && o.after.toList.all (fun e => !Region.binds .any e || decide (e.on < i)) && chkPre rs (i + 1) l m
  | _, _, _ => false

def apartOne (r : RIns) : Nat → List RIns → Bool
  | _, [] => true
  | i, x :: l => (apartT x r || r.pre.testBit i) && apartOne r (i + 1) l

def apartAll : List RIns → List RIns → Bool
  | _, [] => true
  | done, r :: l => apartOne r 0 done && apartAll (done ++ [r]) l

/-- What only looks. -/
def ROp.quiet : ROp → Bool
  | .mv _ => true
  | .pick _ _ _ => true
  | .load _ _ _ => true
  | .bin _ _ _ => true
  | .not _ => true
  | .conv _ _ => true
  | .faddr _ _ => true
  | .field _ _ _ _ => true
  | .iaddr _ _ _ => true
  | .paddr _ _ _ _ => true
  | .isnilf _ _ => true
  | .index _ _ _ _ _ => true
  | .sindex _ _ => true
  | .extract _ _ => true
  | .slen _ => true
  | .strlen _ => true
  | _ => false

def calmPair (x r : RIns) : Bool := x.guard.isNone && r.guard.isNone && x.op.quiet && r.op.quiet

def calmOne (r : RIns) : Nat → List RIns → Bool
  | _, [] => true
  | i, x :: l => (calmPair x r || r.pre.testBit i) && calmOne r (i + 1) l

/-- Whatever two operations have no order between them only look. -/
def calmAll : List RIns → List RIns → Bool
  | _, [] => true
  | done, r :: l => calmOne r 0 done && calmAll (done ++ [r]) l

def chkReg (P : Program) (nt : Nat) (ops : Array Oper) (rs : List RIns) (draw : Bool) : Bool :=
  chkAll P ops nt ops.toList rs && (!draw || (apartAll [] rs && chkPre rs 0 ops.toList rs))

/-- A region that draws its order, and may be taken in order. -/
def chkCalm (P : Program) (nt : Nat) (ops : Array Oper) (rs : List RIns) : Bool :=
  chkReg P nt ops rs true && calmAll [] rs

theorem calmOne_spec {r : RIns} : ∀ (l : List RIns) (i : Nat), calmOne r i l = true → ∀ k x, l[k]? = some x → calmPair x r = true ∨ r.pre.testBit (i + k) = true
  | [], _, _, k, x, h => by simp at h
  | y :: l, i, h, k, x, hx => by
    simp only [calmOne, Bool.and_eq_true, Bool.or_eq_true] at h
    cases k with
    | zero => simp at hx; subst hx; exact h.1
    | succ k =>
      simp at hx
      have := calmOne_spec l (i + 1) h.2 k x hx
      have e : i + 1 + k = i + (k + 1) := by omega
      rwa [e] at this

theorem calmAll_spec : ∀ (l done : List RIns), calmAll done l = true → ∀ i j x r, i < j → done.length ≤ j → (done ++ l)[i]? = some x → (done ++ l)[j]? = some r → calmPair x r = true ∨ r.pre.testBit i = true
  | [], done, _, i, j, x, r, hij, hd, hx, hr => by
    simp at hr; have := (List.getElem?_eq_some_iff.1 hr).1; omega
  | y :: l, done, h, i, j, x, r, hij, hd, hx, hr => by
    simp only [calmAll, Bool.and_eq_true] at h
    by_cases e : j = done.length
    · subst e
      simp at hr; subst hr
      rw [List.getElem?_append_left hij] at hx
      have := calmOne_spec done 0 h.1 i x hx
      simpa using this
    · have : done ++ y :: l = (done ++ [y]) ++ l := by simp
      rw [this] at hx hr
      exact calmAll_spec l _ h.2 i j x r hij (by simp; omega) hx hr

theorem quiet_up {σ : Store} {nm : Nat} {ev : RA → AV} {op : ROp} {e : Eff} (hq : op.quiet = true) (h : step σ nm ev op = some e) : e.up = [] := by
  cases op <;> simp only [ROp.quiet, Bool.false_eq_true] at hq <;> simp only [step, step.iaddrP, Eff.of] at h <;> (repeat' split at h) <;> first | (cases h; rfl) | cases h

theorem set_comm : ∀ (d : Nat) (t : T) (n m : Nat) (u v : AV), n % 2 ^ d ≠ m % 2 ^ d → T.set d (T.set d t n u) m v = T.set d (T.set d t m v) n u
  | 0, t, n, m, u, v, h => by simp [Nat.mod_one] at h
  | d + 1, t, n, m, u, v, h => by
    have hn := Nat.mod_two_eq_zero_or_one n
    have hm := Nat.mod_two_eq_zero_or_one m
    have key : n % 2 = m % 2 → n / 2 % 2 ^ d ≠ m / 2 % 2 ^ d := by
      intro e h'
      apply h
      rw [Nat.pow_succ, Nat.mul_comm, Nat.mod_mul, Nat.mod_mul, e, h']
    rcases hn with hn | hn <;> rcases hm with hm | hm <;> simp only [T.set, hn, hm]
    · show T.node (T.set d (T.set d t.l (n / 2) u) (m / 2) v) t.r = T.node (T.set d (T.set d t.l (m / 2) v) (n / 2) u) t.r
      rw [set_comm d t.l _ _ u v (key (hn.trans hm.symm))]
    · rfl
    · rfl
    · show T.node t.l (T.set d (T.set d t.r (n / 2) u) (m / 2) v) = T.node t.l (T.set d (T.set d t.r (m / 2) v) (n / 2) u)
      rw [set_comm d t.r _ _ u v (key (hn.trans hm.symm))]

theorem putW_comm {s : St} {a b : Option Nat} {u v : AV} {σ : Store} (ha : ∀ d, a = some d → d < 1024) (hb : ∀ d, b = some d → d < 1024) (h : ∀ x y, a = some x → b = some y → x ≠ y) : putW (putW s a u σ) b v σ = putW (putW s b v σ) a u σ := by
  cases a with
  | none => cases b <;> rfl
  | some x =>
    cases b with
    | none => rfl
    | some y =>
      simp only [putW]
      have e1 : x % 2 ^ tdepth = x := Nat.mod_eq_of_lt (ha x rfl)
      have e2 : y % 2 ^ tdepth = y := Nat.mod_eq_of_lt (hb y rfl)
      rw [set_comm _ _ _ _ _ _ (by rw [e1, e2]; exact h x y rfl rfl)]

theorem chkAll_spec {P : Program} {ops : Array Oper} {nt : Nat} : ∀ {l : List Oper} {m : List RIns}, chkAll P ops nt l m = true → l.length = m.length ∧ ∀ (i : Nat) (o : Oper) (r : RIns), l[i]? = some o → m[i]? = some r → chkIns P ops nt o r = true
  | [], [], _ => ⟨rfl, fun i o r h => by simp at h⟩
  | o :: l, r :: m, h => by
    simp only [chkAll, Bool.and_eq_true] at h
    obtain ⟨e, hr⟩ := chkAll_spec h.2
    refine ⟨by simp [e], fun i o' r' ho hr' => ?_⟩
    cases i with
    | zero => simp at ho hr'; subst ho; subst hr'; exact h.1
    | succ i => simp at ho hr'; exact hr i o' r' ho hr'
  | [], _ :: _, h => by simp [chkAll] at h
  | _ :: _, [], h => by simp [chkAll] at h

theorem preOf_spec {rs : List RIns} {i : Nat} : ∀ {l : List Edge}, (preOf rs l).testBit i = true → ∃ e ∈ l, Region.binds .any e = true ∧ (e.on = i ∨ ((rs.getD e.on default).pre).testBit i = true)
  | [], h => by simp [preOf] at h
  | e :: l, h => by
    simp only [preOf] at h
    split at h
    · rename_i hb
      rw [Nat.testBit_or, Nat.testBit_or, Bool.or_eq_true, Bool.or_eq_true, Nat.testBit_two_pow, decide_eq_true_eq] at h
      rcases h with h | h | h
      · exact ⟨e, by simp, hb, .inl h⟩
      · exact ⟨e, by simp, hb, .inr h⟩
      · obtain ⟨e', he, hx⟩ := preOf_spec h; exact ⟨e', by simp [he], hx⟩
    · obtain ⟨e', he, hx⟩ := preOf_spec h; exact ⟨e', by simp [he], hx⟩

theorem chkPre_spec {rs : List RIns} : ∀ {l : List Oper} {m : List RIns} {i : Nat}, chkPre rs i l m = true → ∀ (k : Nat) (o : Oper) (r : RIns), l[k]? = some o → m[k]? = some r →
    (∀ x, r.pre.testBit x = true → ∃ e ∈ o.after.toList, Region.binds .any e = true ∧ (e.on = x ∨ ((rs.getD e.on default).pre).testBit x = true)) ∧
    ∀ e ∈ o.after.toList, Region.binds .any e = true → e.on < i + k
  | [], [], _, _, k, o, r, ho, _ => by simp at ho
  | o :: l, r :: m, i, h, k, o', r', ho, hr => by
    simp only [chkPre, Bool.and_eq_true, beq_iff_eq] at h
    obtain ⟨⟨h1, h2⟩, h3⟩ := h
    cases k with
    | zero =>
      simp at ho hr; subst ho; subst hr
      refine ⟨fun x hx => preOf_spec (h1 ▸ hx), fun e he hb => ?_⟩
      have := List.all_eq_true.1 h2 e he
      simp [hb] at this
      simpa using this
    | succ k =>
      simp at ho hr
      obtain ⟨g1, g2⟩ := chkPre_spec h3 k o' r' ho hr
      refine ⟨g1, fun e he hb => ?_⟩
      have := g2 e he hb; omega
  | [], _ :: _, _, h, _, _, _, _, _ => by simp [chkPre] at h
  | _ :: _, [], _, h, _, _, _, _, _ => by simp [chkPre] at h

theorem apartOne_spec {r : RIns} : ∀ (l : List RIns) (i : Nat), apartOne r i l = true → ∀ k x, l[k]? = some x → apartT x r = true ∨ r.pre.testBit (i + k) = true
  | [], _, _, k, x, h => by simp at h
  | y :: l, i, h, k, x, hx => by
    simp only [apartOne, Bool.and_eq_true, Bool.or_eq_true] at h
    cases k with
    | zero => simp at hx; subst hx; exact h.1
    | succ k =>
      simp at hx
      have := apartOne_spec l (i + 1) h.2 k x hx
      have e : i + 1 + k = i + (k + 1) := by omega
      rwa [e] at this

theorem apartAll_spec : ∀ (l done : List RIns), apartAll done l = true → ∀ i j x r, i < j → done.length ≤ j → (done ++ l)[i]? = some x → (done ++ l)[j]? = some r → apartT x r = true ∨ r.pre.testBit i = true
  | [], done, _, i, j, x, r, hij, hd, hx, hr => by
    simp at hr; have := (List.getElem?_eq_some_iff.1 hr).1; omega
  | y :: l, done, h, i, j, x, r, hij, hd, hx, hr => by
    simp only [apartAll, Bool.and_eq_true] at h
    by_cases e : j = done.length
    · subst e
      simp at hr; subst hr
      rw [List.getElem?_append_left hij] at hx
      have := apartOne_spec done 0 h.1 i x hx
      simpa using this
    · have : done ++ y :: l = (done ++ [y]) ++ l := by simp
      rw [this] at hx hr
      exact apartAll_spec l _ h.2 i j x r hij (by simp; omega) hx hr

theorem mem_mid {A C : List Nat} {j k : Nat} (h : k ∈ A ++ C) : k ∈ A ++ j :: C := by
  rcases List.mem_append.1 h with h | h
  · exact List.mem_append_left _ h
  · exact List.mem_append_right _ (List.mem_cons_of_mem _ h)

theorem mem_mid' {A C : List Nat} {j k : Nat} (h : k ∈ A ++ j :: C) (hne : k ≠ j) : k ∈ A ++ C := by
  rcases List.mem_append.1 h with h | h
  · exact List.mem_append_left _ h
  · rcases List.mem_cons.1 h with h | h
    · exact absurd h hne
    · exact List.mem_append_right _ h

/-- The names that may be in use when the operations of L are still to come. -/
def NL (nx0 nx1 : Nat) (L : List Nat) (b : Nat) : Prop := b < nx1 ∧ ∀ j ∈ L, ¬ Names (nx0 + stride * j) b

section
variable {P : Program} {G : Gl} {B : Nat} {w0 : World} {I0 : Imm} {gh : Gh} {s sf : St} {a : Act} {w : World}
variable {ops : Array Oper} {n : Nat} {ro : Option Nat} {Q : Exit → Act → World → Prop} {ins : Nat → RIns} {dat : Nat → Dat} {nx0 nt : Nat}

theorem NL.next {A C : List Nat} {j m : Nat} (hj : j < m) (hA : ∀ k ∈ A ++ C, k ≠ j) {b : Nat} (h : NL nx0 (nx0 + stride * m) (A ++ j :: C) b ∨ Names (nx0 + stride * j) b) :
    NL nx0 (nx0 + stride * m) (A ++ C) b := by
  rcases h with ⟨h1, h2⟩ | h
  · exact ⟨h1, fun k hk => h2 k (mem_mid hk)⟩
  · refine ⟨?_, fun k hk hn => hA k hk ?_⟩
    · have : b < nx0 + stride * j + stride := h.2
      have e : stride * (j + 1) ≤ stride * m := Nat.mul_le_mul_left _ hj
      rw [Nat.mul_succ] at e; omega
    · obtain ⟨a1, a2⟩ := h
      obtain ⟨b1, b2⟩ := hn
      simp only [stride] at a1 a2 b1 b2
      omega

/-- What an inlined call comes to. -/
def InlPost (P : Program) (G : Gl) (B : Nat) (w0 : World) (I0 : Imm) (gs : Value → AV → Prop) (D : Nat → Prop) (w : World) (nx : Nat) (K : AV → Store → Nat → Prop) : Ending → World → Prop
  | .returned v, w' => ∃ av σ' nx' I' ι' D', K av σ' nx' ∧ Core B w0 I0 w' I' ι' σ' D' ∧ nx ≤ nx' ∧ (∀ b, D' b → D b ∨ (nx ≤ b ∧ b < nx')) ∧ RepA w' I' ι' σ' D' v av ∧ GlobOk P G w' I' ∧ (∀ x a, gs x a → RepA w' I' ι' σ' D' x a) ∧ ∀ (r : Nat) (o : Obj), still o = true → w.heap[r]? = some o → w'.heap[r]? = some o
  | _, _ => False

/-- The inlined functions are the model's. -/
def InlOk (P : Program) (G : Gl) (Inl : InlF) : Prop :=
  ∀ g h, Inl g = some h → ∀ (args : List AV) (σ : Store) (nx : Nat) (K : AV → Store → Nat → Prop), h args σ nx K →
    ∀ (B : Nat) (w0 : World) (I0 : Imm) (gs : Value → AV → Prop) (w : World) (I : Imm) (ι : Nat → Option Nat) (D : Nat → Prop) (vs : Array Value), Core B w0 I0 w I ι σ D → (∀ b, D b → b < nx) → GlobOk P G w I →
      vs.size = args.length → (∀ (j : Nat) (x : Value) (q : AV), vs[j]? = some x → args[j]? = some q → RepA w I ι σ D x q) → (∀ x a, gs x a → RepA w I ι σ D x a) →
      (∀ w₁, (callFunc g vs).run P w₁ = .ok (.enter g vs) w₁) ∧ CallsIn Fence.wide 0 P g vs w (InlPost P G B w0 I0 gs D w nx K)

/-- What a round comes to. -/
def YldPost (P : Program) (G : Gl) (B : Nat) (w0 : World) (I0 : Imm) (p : LoopAt) (gs : Value → AV → Prop) (D : Nat → Prop) (w : World) (nx : Nat) (K : AV → Store → Nat → Nat → Prop) : Ending → World → Prop
  | .returned v, w' => ∃ av σ' nx' pd I' ι' D', K av σ' nx' pd ∧ Core B w0 I0 w' I' ι' σ' D' ∧ nx ≤ nx' ∧ (∀ b, D' b → D b ∨ (nx ≤ b ∧ b < nx')) ∧ RepA w' I' ι' σ' D' v av ∧ GlobOk P G w' I' ∧ (∀ x a, gs x a → RepA w' I' ι' σ' D' x a) ∧
      (∀ (r : Nat) (o : Obj), r ≠ p.l → still o = true → w.heap[r]? = some o → w'.heap[r]? = some o) ∧ w'.heap[p.l]? = some (.loop (p.at pd))
  | _, _ => False

/-- The handler is what a round of this loop does. -/
def YldOk (P : Program) (G : Gl) (p : LoopAt) (h : YldF) (B : Nat) (w0 : World) (I0 : Imm) (gs : Value → AV → Prop) : Prop :=
  ∀ (args : List AV) (σ : Store) (nx : Nat) (K : AV → Store → Nat → Nat → Prop), h args σ nx K →
    ∀ (gs' : Value → AV → Prop) (w : World) (I : Imm) (ι : Nat → Option Nat) (D : Nat → Prop) (vs : Array Value), (∀ x a, gs x a → gs' x a) → Core B w0 I0 w I ι σ D → (∀ b, D b → b < nx) → GlobOk P G w I →
      vs.size = args.length → (∀ (j : Nat) (x : Value) (q : AV), vs[j]? = some x → args[j]? = some q → RepA w I ι σ D x q) → (∀ x a, gs' x a → RepA w I ι σ D x a) → w.heap[p.l]? = some (.loop (p.at 0)) →
      vs.size = p.data.params.size ∧ RoundIn Fence.wide 0 P p.l p.data.fn ((p.data.params.zip vs).foldl (fun tmps (t, a) => tmps.setIfInBounds t a) p.data.tmps) p.data.assign p.data.body w (YldPost P G B w0 I0 p gs' D w nx K)

/-- What an iterator's call comes to. -/
def ItrPost (P : Program) (G : Gl) (B : Nat) (w0 : World) (I0 : Imm) (p : LoopAt) (gs : Value → AV → Prop) (D : Nat → Prop) (w : World) (nx : Nat) (K : AV → Store → Nat → Prop) : Ending → World → Prop
  | .returned _, w' => ∃ k σ' nx' I' ι' D', K (.mark k) σ' nx' ∧ Core B w0 I0 w' I' ι' σ' D' ∧ nx ≤ nx' ∧ (∀ b, D' b → D b ∨ (nx ≤ b ∧ b < nx')) ∧ GlobOk P G w' I' ∧ (∀ x a, gs x a → RepA w' I' ι' σ' D' x a) ∧
      (∀ (r : Nat) (o : Obj), r ≠ p.l → still o = true → w.heap[r]? = some o → w'.heap[r]? = some o) ∧ w'.heap[p.l]? = some (.loop (p.at k))
  | _, _ => False

/-- The iterators are the model's. -/
def ItrOk (P : Program) (G : Gl) (itr : ItrF) : Prop :=
  ∀ g it, itr g = some it → ∀ (b : Nat) (h : YldF) (args : List AV) (σ : Store) (nx : Nat) (K : AV → Store → Nat → Prop), it b h args σ nx K →
    ∀ (B : Nat) (w0 : World) (I0 : Imm) (gs : Value → AV → Prop) (p : LoopAt) (w : World) (I : Imm) (ι : Nat → Option Nat) (D : Nat → Prop) (vs : Array Value), Core B w0 I0 w I ι σ D → (∀ b, D b → b < nx) → GlobOk P G w I →
      vs.size = args.length → (∀ (j : Nat) (x : Value) (q : AV), vs[j]? = some x → args[j]? = some q → RepA w I ι σ D x q) → (∀ x a, gs x a → RepA w I ι σ D x a) →
      p.b = b → gs (.func (.yield p.l) #[] #[]) (.yld p.b) → B ≤ p.l → w.heap[p.l]? = some (.loop (p.at 0)) → YldOk P G p h B w0 I0 gs →
      (∀ w₁, (callFunc g vs).run P w₁ = .ok (.enter g vs) w₁) ∧ CallsIn Fence.wide 0 P g vs w (ItrPost P G B w0 I0 p gs D w nx K)

/-- All that a frame may call on its own store is the model's. -/
structure EnvOk (P : Program) (G : Gl) (E : Env) (ro : Option Nat) (B : Nat) (w0 : World) (I0 : Imm) (gh : Gh) : Prop where
  inl : InlOk P G E.inl
  itr : ItrOk P G E.itr
  none : ∀ l, ro = some l → ∀ g, E.itr g = none
  yld : ∀ b h, E.yld = some (b, h) → ∃ p, gh.lp = some p ∧ p.b = b ∧ (∀ o, ¬ gh.keep p.l o) ∧ gh.gs (.func (.yield p.l) #[] #[]) (.yld p.b) ∧ YldOk P G p h B w0 I0 gh.gs

/-- The names in use while the operations of L are to come, where the count goes up on the way. -/
def NS (nx0 : Nat) (L : List Nat) (s : St) (b : Nat) : Prop := b < s.nx ∧ ∀ j ∈ L, ¬ Names (nx0 + stride * j) b

theorem insS_wp {E : Env} (hE : EnvOk P G E ro B w0 I0 gh) {i : Nat} {o : Oper} {r : RIns} {L : List Nat} {K : St → Prop} {KR : Act → World → Prop} (ho : ops[i]? = some o) (hk : chkIns P ops s.nt o r = true) (hn0 : gh.n0 ≤ nx0)
    (hnx : nx0 + stride * i + stride ≤ s.nx) (hL : ∀ j ∈ L, i ≠ j ∧ nx0 + stride * j + stride ≤ s.nx) (h : insS G (OkC P G) E r (nx0 + stride * i) s K) (hsim : Sim P G B w0 I0 gh (NS nx0 (i :: L) s) s a w)
    (hK : ∀ s' a' w', K s' → s'.nt = s.nt → s.nx ≤ s'.nx → Sim P G B w0 I0 gh (NS nx0 L s') s' a' w' → KR a' w') : wpOpIn (Fw ro) n P ops Q i KR a w := by
  have plain : insW G (OkC P G) r (nx0 + stride * i) s (fun st' _ => K st') → wpOpIn (Fw ro) n P ops Q i KR a w := by
    intro h
    obtain ⟨d, hd, hKs⟩ := insW_what h
    refine what_wp ho hk hd hsim (fun b hb => hb.2 i (by simp)) ⟨_, fun b hb => hb.1⟩ (by omega) fun a' w' hs => ?_
    have e1 : (afterD s r d).nx = s.nx := by rw [afterD, after, putW_nx]
    refine hK _ a' w' hKs (by rw [afterD, after, putW_nt]) (by rw [e1]; exact Nat.le_refl _) (hs.weaken fun b hb => ⟨?_, fun j hj hn => ?_⟩)
    · rw [e1]
      rcases hb with hb | hb
      · exact hb.1
      · have := hb.2; omega
    · rcases hb with hb | hb
      · exact hb.2 j (by simp [hj]) hn
      · obtain ⟨a1, a2⟩ := hb
        obtain ⟨b1, b2⟩ := hn
        have := (hL j hj).1
        simp only [stride] at a1 a2 b1 b2
        omega
  unfold insS at h
  split at h
  · rename_i f args hro
    split at h
    · rename_i b hfv
      split at h
      · rename_i b' hh hEy hgd
        split at h
        · rename_i hbb
          rw [beq_iff_eq] at hbb
          subst hbb
          obtain ⟨hdst, hdlt, hsm, hg, hop⟩ := chkIns_spec hk
          obtain ⟨I, ι, D, hx⟩ := hsim
          obtain ⟨tm, σ, nx, nt'⟩ := s
          simp only [callY] at h
          split at h
          · rename_i hmk
            have hcall : chkCall o.op r.op = true := hop.resolve_left fun h => by rw [hro, chkOp_noCall] at h; cases h
            rw [hro] at hcall
            unfold chkCall at hcall
            split at hcall
            · rename_i c f' args' hoc heq
              cases heq
              split at hcall
              · rename_i x hcv
                simp only [Bool.and_eq_true] at hcall
                obtain ⟨hcf, hcas⟩ := hcall
                obtain ⟨hal, har⟩ := chkAs_rep (ρ := a.eval) (fun o r h => hx.eval h) hcas
                have hcs : c.args.size = args.length := by simpa using hal
                obtain ⟨p, hp, hpb, hkp, hgy, hY⟩ := hE.yld _ _ hEy
                have hfr := hx.eval hcf
                rw [hfv] at hfr
                have hxf : a.eval x = .func (.yield p.l) #[] #[] := by
                  have hgr := hx.ghost _ _ hgy
                  rw [hpb] at hgr
                  generalize a.eval x = xv at hfr
                  generalize hyv : Value.func (.yield p.l) #[] #[] = yv at hgr
                  cases hfr with
                  | yld _ h1 =>
                    cases hgr with
                    | yld _ h2 =>
                      obtain ⟨l₁, i1, e1⟩ := h1
                      obtain ⟨l₂, i2, e2⟩ := h2
                      rw [i1] at i2
                      cases i2
                      rw [e1, e2]
                obtain ⟨hnt, hBl, k, hk1, hk2⟩ := hx.loop p hp
                simp only at hk1
                rw [hmk] at hk1
                cases hk1
                let gs : Value → AV → Prop := fun v av => gh.gs v av ∨ ∃ t, t < 1024 ∧ v = a.tmps.getD t undef ∧ av = tm.get tdepth t
                obtain ⟨hsz, hround⟩ := hY _ _ _ _ h gs w I ι D (c.args.map a.eval) (fun _ _ h => .inl h) hx.core (fun b hb => (hx.names b hb).1) hx.glob (by simp only [Array.size_map, List.length_map]; exact hcs)
                  (fun j z q hz hq => by
                    rw [List.getElem?_map, Option.map_eq_some_iff] at hq
                    obtain ⟨q', hq', rfl⟩ := hq
                    rw [Array.getElem?_map, Option.map_eq_some_iff] at hz
                    obtain ⟨z', hz', rfl⟩ := hz
                    exact har j z' q' (by simpa using hz') hq')
                  (fun v av hv => by
                    rcases hv with hv | ⟨t, ht, rfl, rfl⟩
                    · exact hx.ghost v av hv
                    · exact hx.tm t ht) hk2
                unfold wpOpIn
                simp only [ho]
                rw [wanted_of (b := true) (s := ⟨tm, σ, nx, nt'⟩) ⟨I, ι, D, hx⟩ hg hsm (fun t want e => by rw [hgd] at e; cases e) (fun e => by cases e), if_pos rfl]
                refine ⟨fun _ _ => trivial, ?_⟩
                have hnd : ∀ c', o.op ≠ .defer c' := by intro c' e; rw [e] at hoc; cases hoc
                rw [Oper.semAt_eq _ _ _ hnd]
                have hexec : (execOp a.eval o).run P w = .ok (.round p.l p.data.fn ((p.data.params.zip (c.args.map a.eval)).foldl (fun tmps (t, a) => tmps.setIfInBounds t a) p.data.tmps) p.data.assign p.data.body) w := by
                  obtain ⟨dst, op, type, pos, aft, guard⟩ := o
                  simp only at hoc
                  subst hoc
                  simp only [execOp, resolve, hcv, hxf, Deferred.ofValue, Sem.run_bind, Sem.run_pure, Result.andThen_ok, invoke, Array.empty_append]
                  have hy := run_yield (P := P) (args := c.args.map a.eval) hk2 hsz
                  exact hy
                rw [hexec]
                refine ⟨fun h => by simp [Fence.wide] at h, ?_⟩
                refine RoundIn.mono (R := YldPost P G B w0 I0 p gs D w nx _) ⟨hround.1, fun c cs _ => hround.2 c cs (room_wide _)⟩ fun e w₁ he => ?_
                cases e with
                | returned v =>
                  obtain ⟨av, σ', nx', pd, I', ι', D', hKa, hc₁, hle, hD, hrep, hglob, hgh, hstill, hrec⟩ := he
                  rw [forceN_eq, setK_eq, putK_eq] at hKa
                  have hnext : KR (a.put o.dst v) w₁ := by
                    rw [hdst]
                    have hsz : (putW (⟨tm.set tdepth markT (.mark pd), σ', nx', nt'⟩ : St) r.dst av σ').nx = nx' := putW_nx
                    refine hK _ _ _ hKa (by rw [putW_nt]) (by rw [hsz]; exact hle) ⟨I', ι', D', ?_⟩
                    have hσ : (putW (⟨tm.set tdepth markT (.mark pd), σ', nx', nt'⟩ : St) r.dst av σ').σ = σ' := putW_σ
                    have hne : ∀ (r : Nat) (o : Obj), gh.keep r o → r ≠ p.l := fun r o hk e => hkp o (e ▸ hk)
                    refine ⟨by rw [hσ]; exact hc₁, fun b hb => ?_, ?_, ?_, hglob, fun t ht => ?_, fun x y hg => by rw [hσ]; exact hgh x y (.inl hg), fun b hb => ?_,
                      fun r o hk => ⟨(hx.kept r o hk).1, hstill r o (hne r o hk) (hx.kept r o hk).1 (hx.kept r o hk).2⟩, fun p' hp' => ?_⟩
                    · refine ⟨?_, fun j hj hn => ?_⟩
                      · rw [hsz]
                        rcases hD b hb with h | h
                        · have := (hx.names b h).1; simp only at this hle; omega
                        · exact h.2
                      · rcases hD b hb with h | h
                        · exact (hx.names b h).2 j (by simp [hj]) hn
                        · have h1 := (hL j hj).2
                          have h2 := hn.2
                          simp only at h1
                          omega
                    · obtain ⟨rs, h1, h2, h3⟩ := hx.dfs
                      have : Marks B gh.keep w₁ a.defers := ⟨rs, h1, h2, fun r hr => ⟨(h3 r hr).1, (h3 r hr).2.1, hstill r _ (fun e => by subst e; rw [(h3 _ hr).2.2] at hk2; cases hk2) rfl (h3 r hr).2.2⟩⟩
                      cases r.dst <;> exact this
                    · have := hx.size
                      cases r.dst with
                      | none => exact this
                      | some d => simpa [Act.put, putW] using this
                    · rw [hσ, get_put ht fun d e => (hdlt d e).2]
                      have hold : ∀ t, t < 1024 → RepA w₁ I' ι' σ' D' (a.tmps.getD t undef) ((tm.set tdepth markT (.mark pd)).get tdepth t) := fun t ht => by
                        rw [get_set]
                        split
                        · exact .mark _ _
                        · exact hgh _ _ (.inr ⟨t, ht, rfl, rfl⟩)
                      cases hrd : r.dst with
                      | none => simp only [Act.put, reduceCtorEq, if_false]; exact hold t ht
                      | some d =>
                        have hds : d < a.tmps.size := by rw [hx.size]; exact (hdlt d hrd).1
                        simp only [Act.put, Option.some.injEq]
                        by_cases e : d = t
                        · subst e; rw [if_pos rfl]
                          have : (a.tmps.setIfInBounds d v).getD d undef = v := by simp [Array.getD, hds]
                          rw [this]; exact hrep
                        · rw [if_neg e]
                          have : (a.tmps.setIfInBounds d v).getD t undef = a.tmps.getD t undef := by
                            simp only [Array.getD_eq_getD_getElem?]
                            rw [Array.getElem?_setIfInBounds_ne e]
                          rw [this]; exact hold t ht
                    · rcases hD b hb with h | h
                      · exact hx.base b h
                      · simp only at hnx; exact .inr (by omega)
                    · rw [hp] at hp'
                      cases hp'
                      refine ⟨by rw [putW_nt]; exact hnt, hBl, pd, ?_, hrec⟩
                      rw [get_put (by decide) fun d e => (hdlt d e).2, if_neg (fun e => by have := (hdlt _ e).1; simp only [markT] at this hnt; omega), get_set, if_pos rfl]
                  exact hnext
                | panicked ch => exact he.elim
                | outgrown => exact he.elim
              · cases hcall
            · cases hcall
          · exact h.elim
        · exact h.elim
      · exact h.elim
    · rename_i fv hne
      split at h
      · rename_i g fa fb hca
        split at h
        · rename_i hf hinlg
          have inlined : callS hf (fa ++ args.map (s.ev G) ++ fb) r.dst s K → (∀ t want, r.guard = some (t, want) → s.ev G (.t t) = .pv (.bool want)) → wpOpIn (Fw ro) n P ops Q i KR a w := by
            intro h hgon
            obtain ⟨hdst, hdlt, hsm, hg, hop⟩ := chkIns_spec hk
            obtain ⟨I, ι, D, hx⟩ := hsim
            obtain ⟨tm, σ, nx, nt'⟩ := s
            simp only [callS] at h
            have hcall : chkCall o.op r.op = true := hop.resolve_left fun h => by rw [hro, chkOp_noCall] at h; cases h
            rw [hro] at hcall
            unfold chkCall at hcall
            split at hcall
            · rename_i c f' args' hoc heq
              cases heq
              split at hcall
              · rename_i x hcv
                simp only [Bool.and_eq_true] at hcall
                obtain ⟨hcf, hcas⟩ := hcall
                obtain ⟨hal, har⟩ := chkAs_rep (ρ := a.eval) (fun o r h => hx.eval h) hcas
                obtain ⟨xs, ys, hxf, hxl, hyl, hxr, hyr⟩ := callee_rep hca (hx.eval hcf)
                have hcs : c.args.size = args.length := by simpa using hal
                let gs : Value → AV → Prop := fun v av => gh.gs v av ∨ ∃ t, t < 1024 ∧ v = a.tmps.getD t undef ∧ av = tm.get tdepth t
                obtain ⟨henter, hcalls⟩ := hE.inl g hf hinlg _ _ _ _ h B w0 I0 gs w I ι D ((xs ++ c.args.map a.eval) ++ ys) hx.core (fun b hb => (hx.names b hb).1) hx.glob
                  (by simp only [Array.size_append, Array.size_map, List.length_append, List.length_map]; omega)
                  (fun j z q hz hq => by
                    by_cases h1 : j < fa.length
                    · rw [List.getElem?_append_left (by simp; omega), List.getElem?_append_left h1] at hq
                      rw [Array.getElem?_append_left (by simp; omega), Array.getElem?_append_left (by omega)] at hz
                      exact hxr j z q hz hq
                    · by_cases h2 : j < fa.length + args.length
                      · rw [List.getElem?_append_left (by simp; omega), List.getElem?_append_right (by omega), List.getElem?_map, Option.map_eq_some_iff] at hq
                        obtain ⟨q', hq', rfl⟩ := hq
                        rw [Array.getElem?_append_left (by simp; omega), Array.getElem?_append_right (by omega), Array.getElem?_map, Option.map_eq_some_iff] at hz
                        obtain ⟨z', hz', rfl⟩ := hz
                        rw [hxl] at hz'
                        exact har (j - fa.length) z' q' (by simpa using hz') hq'
                      · rw [List.getElem?_append_right (by simp; omega)] at hq
                        rw [Array.getElem?_append_right (by simp; omega)] at hz
                        simp only [List.length_append, List.length_map, Array.size_append, Array.size_map] at hq hz
                        rw [hxl, hcs] at hz
                        exact hyr _ z q hz hq)
                  (fun v av hv => by
                    rcases hv with hv | ⟨t, ht, rfl, rfl⟩
                    · exact hx.ghost v av hv
                    · exact hx.tm t ht)
                unfold wpOpIn
                simp only [ho]
                rw [wanted_of (b := true) (s := ⟨tm, σ, nx, nt'⟩) ⟨I, ι, D, hx⟩ hg hsm (fun t want e => by simpa using hgon t want e) (fun e => by cases e), if_pos rfl]
                refine ⟨fun _ _ => trivial, ?_⟩
                have hnd : ∀ c', o.op ≠ .defer c' := by intro c' e; rw [e] at hoc; cases hoc
                rw [Oper.semAt_eq _ _ _ hnd]
                have hexec : (execOp a.eval o).run P w = .ok (.enter g ((xs ++ c.args.map a.eval) ++ ys)) w := by
                  obtain ⟨dst, op, type, pos, aft, guard⟩ := o
                  simp only at hoc
                  subst hoc
                  simp only [execOp, resolve, hcv, hxf, Deferred.ofValue, Sem.run_bind, Sem.run_pure, Result.andThen_ok, invoke]
                  exact henter w
                rw [hexec]
                refine ⟨fun h => by simp [Fence.wide] at h, ?_⟩
                have hc' : CallsIn (Fw ro) 0 P g ((xs ++ c.args.map a.eval) ++ ys) w _ := hcalls
                refine CallsIn.mono (CallsIn.more hc' (Nat.zero_le _)) fun e w₁ he => ?_
                cases e with
                | returned v =>
                  obtain ⟨av, σ', nx', I', ι', D', hKa, hc₁, hle, hD, hrep, hglob, hgh, hstill⟩ := he
                  rw [putK_eq] at hKa
                  have hnext : KR (a.put o.dst v) w₁ := by
                    rw [hdst]
                    have hsz : (putW (⟨tm, σ', nx', nt'⟩ : St) r.dst av σ').nx = nx' := putW_nx
                    refine hK _ _ _ hKa (by rw [putW_nt]) (by rw [hsz]; exact hle) ⟨I', ι', D', ?_⟩
                    have hσ : (putW (⟨tm, σ', nx', nt'⟩ : St) r.dst av σ').σ = σ' := putW_σ
                    refine ⟨by rw [hσ]; exact hc₁, fun b hb => ?_, ?_, ?_, hglob, fun t ht => ?_, fun x y hg => by rw [hσ]; exact hgh x y (.inl hg), fun b hb => ?_, fun r o hk => ⟨(hx.kept r o hk).1, hstill r o (hx.kept r o hk).1 (hx.kept r o hk).2⟩, fun p hp => ?_⟩
                    · refine ⟨?_, fun j hj hn => ?_⟩
                      · rw [hsz]
                        rcases hD b hb with h | h
                        · have := (hx.names b h).1; simp only at this hle; omega
                        · exact h.2
                      · rcases hD b hb with h | h
                        · exact (hx.names b h).2 j (by simp [hj]) hn
                        · have h1 := (hL j hj).2
                          have h2 := hn.2
                          simp only at h1
                          omega
                    · obtain ⟨rs, h1, h2, h3⟩ := hx.dfs
                      have : Marks B gh.keep w₁ a.defers := ⟨rs, h1, h2, fun r hr => ⟨(h3 r hr).1, (h3 r hr).2.1, hstill r _ rfl (h3 r hr).2.2⟩⟩
                      cases r.dst <;> exact this
                    · have := hx.size
                      cases r.dst with
                      | none => exact this
                      | some d => simpa [Act.put, putW] using this
                    · rw [hσ, get_put ht fun d e => (hdlt d e).2]
                      cases hrd : r.dst with
                      | none => simp only [Act.put, reduceCtorEq, if_false]; exact hgh _ _ (.inr ⟨t, ht, rfl, rfl⟩)
                      | some d =>
                        have hds : d < a.tmps.size := by rw [hx.size]; exact (hdlt d hrd).1
                        simp only [Act.put, Option.some.injEq]
                        by_cases e : d = t
                        · subst e; rw [if_pos rfl]
                          have : (a.tmps.setIfInBounds d v).getD d undef = v := by simp [Array.getD, hds]
                          rw [this]; exact hrep
                        · rw [if_neg e]
                          have : (a.tmps.setIfInBounds d v).getD t undef = a.tmps.getD t undef := by
                            simp only [Array.getD_eq_getD_getElem?]
                            rw [Array.getElem?_setIfInBounds_ne e]
                          rw [this]; exact hgh _ _ (.inr ⟨t, ht, rfl, rfl⟩)
                    · rcases hD b hb with h | h
                      · exact hx.base b h
                      · simp only at hnx; exact .inr (by omega)
                    · obtain ⟨h1, h2, k, h3, h4⟩ := hx.loop p hp
                      refine ⟨by rw [putW_nt]; exact h1, h2, k, ?_, hstill _ _ rfl h4⟩
                      rw [get_put (by decide) fun d e => (hdlt d e).2, if_neg (fun e => by have := (hdlt _ e).1; simp only [markT] at this h1; omega)]
                      exact h3
                  exact hnext
                | panicked ch => exact he.elim
                | outgrown => exact he.elim
              · cases hcall
            · cases hcall
          split at h
          · rename_i hgd
            exact inlined h fun t want e => by rw [hgd] at e; cases e
          · rename_i t want hgd
            split at h
            · rename_i hon
              refine inlined h fun t' want' e => ?_
              rw [hgd] at e
              cases e
              unfold guardOn at hon
              split at hon
              · rename_i x hx
                rw [hx]
                cases x <;> cases want <;> simp_all
              · cases hon
            · exact plain h
        · exact plain h
      · exact plain h
  · exact plain h

theorem region_seq {E : Env} (hE : EnvOk P G E ro B w0 I0 gh) (full : List RIns) (hfull : full.length = ops.size) (hins : ∀ i o, ops[i]? = some o → chkIns P ops nt o (full.getD i default) = true) (hn0 : gh.n0 ≤ nx0) {KK : St → Prop}
    (hQ : ∀ s' a' w', KK s' → s'.nt = nt → nx0 + stride * ops.size ≤ s'.nx → Sim P G B w0 I0 gh (fun b => b < s'.nx) s' a' w' → Q .normal a' w') :
    ∀ (l : List RIns) (k : Nat) (s : St) (a : Act) (w : World), full.drop k = l → k + l.length = ops.size → s.nt = nt → nx0 + stride * ops.size ≤ s.nx → opsS G (OkC P G) E l (nx0 + stride * k) s KK →
      Sim P G B w0 I0 gh (NS nx0 (List.range' k l.length) s) s a w → wpOpsIn (Fw ro) n P ops Q (List.range' k l.length) a w
  | [], k, s, a, w, _, hk, hnt, hnx, hr, hsim => hQ s a w hr hnt hnx (hsim.weaken fun b h => h.1)
  | r :: l, k, s, a, w, hd, hk, hnt, hnx, hr, hsim => by
    simp only [List.length_cons] at hk
    have hlt : k < ops.size := by omega
    have ho : ops[k]? = some ops[k] := Array.getElem?_eq_getElem hlt
    have hrk : full.getD k default = r := by
      have : (full.drop k)[0]? = some r := by rw [hd]; rfl
      rw [List.getElem?_drop] at this
      simp only [Nat.add_zero] at this
      simp [List.getD, this]
    have hdrop : full.drop (k + 1) = l := by
      have := congrArg (List.drop 1) hd
      rw [List.drop_drop] at this
      simpa using this
    have hb : ∀ j, j < ops.size → nx0 + stride * j + stride ≤ s.nx := by
      intro j hj
      have e : stride * (j + 1) ≤ stride * ops.size := Nat.mul_le_mul_left _ hj
      rw [Nat.mul_succ] at e; omega
    show wpOpsIn (Fw ro) n P ops Q (k :: List.range' (k + 1) l.length) a w
    rw [wpOpsIn_cons]
    simp only [opsS, forceN_eq] at hr
    refine insS_wp (s := s) (L := List.range' (k + 1) l.length) hE ho (by rw [hnt, ← hrk]; exact hins k _ ho) hn0 (hb k hlt) (fun j hj => ?_) hr hsim fun s' a' w' hK hnt' hnx' hs => ?_
    · have := List.mem_range'_1.1 hj
      exact ⟨by omega, hb j (by omega)⟩
    · have e : nx0 + stride * k + stride = nx0 + stride * (k + 1) := by rw [Nat.mul_succ]; omega
      rw [e] at hK
      exact region_seq hE full hfull hins hn0 hQ l (k + 1) s' a' w' hdrop (by omega) (by rw [hnt', hnt]) (by omega) hK hs

theorem getD_false {l : Array Bool} {i : Nat} (hi : i < l.size) : l.getD i false = l.getD i true := by simp [Array.getD, hi]

theorem region_any (hins : ∀ i o, ops[i]? = some o → chkIns P ops nt o (ins i) = true)
    (hpre : ∀ i o, ops[i]? = some o → (∀ x, (ins i).pre.testBit x = true → ∃ e ∈ o.after.toList, Region.binds .any e = true ∧ (e.on = x ∨ (ins e.on).pre.testBit x = true)) ∧ ∀ e ∈ o.after.toList, Region.binds .any e = true → e.on < i)
    (hap : ∀ i j, i < j → j < ops.size → apartT (ins i) (ins j) = true ∨ (ins j).pre.testBit i = true)
    (hcl : ∀ i j, i < j → j < ops.size → ((dat i).toRec (ins i)).clash ((dat j).toRec (ins j)) = true → (ins j).pre.testBit i = true)
    (hn0 : gh.n0 ≤ nx0) (hQ : ∀ a' w', Sim P G B w0 I0 gh (fun b => b < nx0 + stride * ops.size) sf a' w' → Q .normal a' w') :
    ∀ (fuel : Nat) (listed : Array Bool) (L : List Nat) (s : St) (a : Act) (w : World), L.length ≤ fuel → listed.size = ops.size → L.Pairwise (· < ·) → (∀ i, i ∈ L ↔ i < ops.size ∧ listed.getD i true = false) →
      (∀ j, j < ops.size → listed.getD j true = true → ∀ i, (ins j).pre.testBit i = true → i < ops.size → listed.getD i true = true) → s.nt = nt →
      RunR G (OkC P G) ins (fun i => nx0 + stride * i) dat L s sf → Sim P G B w0 I0 gh (NL nx0 (nx0 + stride * ops.size) L) s a w → wpAnyIn (Fw ro) n P .any ops Q fuel listed a w := by
  intro fuel
  have done : ∀ (s : St) (a : Act) (w : World), RunR G (OkC P G) ins (fun i => nx0 + stride * i) dat [] s sf → Sim P G B w0 I0 gh (NL nx0 (nx0 + stride * ops.size) []) s a w → Q .normal a w :=
    fun s a w hr hsim => hQ a w ((Sim.eqv hsim hr).weaken fun b h => h.1)
  have noReady : ∀ (listed : Array Bool) (L : List Nat), listed.size = ops.size → L.Pairwise (· < ·) → (∀ i, i ∈ L ↔ i < ops.size ∧ listed.getD i true = false) → Region.ready .any ops listed = [] → L = [] := by
    intro listed L hsz hpw hmem hr
    cases L with
    | nil => rfl
    | cons j C =>
      exfalso
      obtain ⟨hj1, hj2⟩ := (hmem j).1 (by simp)
      have hoj : ops[j]? = some ops[j] := Array.getElem?_eq_getElem hj1
      have : j ∈ Region.ready .any ops listed := mem_ready.2 ⟨hj2, ops[j], hoj, fun e he hb => by
        have hlt := (hpre j _ hoj).2 e (by simpa using he) hb
        rw [getD_false (by omega)]
        cases hl : listed.getD e.on true with
        | true => rfl
        | false =>
          have hin := (hmem e.on).2 ⟨by omega, hl⟩
          simp only [List.pairwise_cons] at hpw
          rcases List.mem_cons.1 hin with h | h
          · omega
          · have := hpw.1 _ h; omega⟩
      rw [hr] at this; cases this
  induction fuel with
  | zero =>
    intro listed L s a w hlen hsz hpw hmem hclo hnt hr hsim
    have hL : L = [] := List.eq_nil_of_length_eq_zero (by omega)
    subst hL
    refine ⟨?_, done s a w hr hsim⟩
    cases hrd : Region.ready .any ops listed with
    | nil => rfl
    | cons j l =>
      exfalso
      have : j ∈ Region.ready .any ops listed := by rw [hrd]; simp
      obtain ⟨h1, oj, h2, _⟩ := mem_ready.1 this
      have := (hmem j).2 ⟨(Array.getElem?_eq_some_iff.1 h2).1, h1⟩
      cases this
  | succ fuel ih =>
    intro listed L s a w hlen hsz hpw hmem hclo hnt hr hsim
    refine ⟨fun h0 => ?_, fun j hj => ?_⟩
    · have := noReady listed L hsz hpw hmem h0
      subst this
      exact done s a w hr hsim
    · obtain ⟨hj1, oj, hoj, hall⟩ := mem_ready.1 hj
      have hjlt : j < ops.size := (Array.getElem?_eq_some_iff.1 hoj).1
      have hjL : j ∈ L := (hmem j).2 ⟨hjlt, hj1⟩
      obtain ⟨A, C, rfl⟩ := List.append_of_mem hjL
      have hpre' : ∀ i, (ins j).pre.testBit i = true → i < ops.size → listed.getD i true = true := by
        intro i hi hilt
        obtain ⟨e, he, hb, hx⟩ := (hpre j oj hoj).1 i hi
        have hl := hall e (by simpa using he) hb
        have helt := (hpre j oj hoj).2 e he hb
        rw [getD_false (by omega)] at hl
        rcases hx with rfl | hx
        · exact hl
        · exact hclo e.on (by omega) hl i hx hilt
      have hA : ∀ i ∈ A, i < j ∧ i < ops.size ∧ (ins j).pre.testBit i = false := by
        intro i hi
        have hij : i < j := (List.pairwise_append.1 hpw).2.2 i hi j (by simp)
        refine ⟨hij, by omega, ?_⟩
        cases hb : (ins j).pre.testBit i with
        | false => rfl
        | true =>
          have h1 := hpre' i hb (by omega)
          have h2 := ((hmem i).1 (by simp [hi])).2
          rw [h1] at h2; cases h2
      have hsm : ∀ i, i < ops.size → smallT (ins i) = true := by
        intro i hi
        have := hins i _ (Array.getElem?_eq_getElem hi)
        simp only [chkIns, Bool.and_eq_true] at this
        exact this.1.1.2
      obtain ⟨h1, h2⟩ := RunR.front (hsm j hjlt) A (fun i hi => by
        obtain ⟨k1, k2, k3⟩ := hA i hi
        refine ⟨hsm i k2, (hap i j k1 hjlt).resolve_right (by rw [k3]; simp), ?_⟩
        cases hc : ((dat i).toRec (ins i)).clash ((dat j).toRec (ins j)) with
        | false => rfl
        | true => have := hcl i j k1 hjlt hc; rw [k3] at this; cases this) hr
      have hne : ∀ k ∈ A ++ C, k ≠ j := by
        intro k hk e
        subst e
        rcases List.mem_append.1 hk with h | h
        · exact absurd (hA k h).1 (Nat.lt_irrefl _)
        · have := (List.pairwise_append.1 hpw).2.1
          rw [List.pairwise_cons] at this
          exact absurd (this.1 k h) (Nat.lt_irrefl _)
      refine what_wp (s := s) hoj (hnt ▸ hins j oj hoj) h1 hsim (fun b hb => hb.2 j (by simp)) ⟨_, fun b hb => hb.1⟩ (by omega) fun a' w' hs => ?_
      have hget : ∀ i, (listed.setIfInBounds j true).getD i true = if i = j then true else listed.getD i true := by
        intro i
        simp only [Array.getD_eq_getD_getElem?, Array.getElem?_setIfInBounds]
        by_cases e : j = i
        · subst e; simp [hsz, hjlt]
        · have : ¬ i = j := fun h => e h.symm
          simp [e, this]
      refine ih _ (A ++ C) _ a' w' (by simp at hlen ⊢; omega) (by simpa using hsz) ?_ (fun i => ?_) (fun k hk hl i hi hilt => ?_) (by rw [afterD, after, putW_nt, hnt]) h2 (hs.weaken fun b hb => NL.next hjlt hne hb)
      · exact hpw.sublist (by simp)
      · rw [hget]
        constructor
        · intro hi
          have hij := hne i hi
          have := (hmem i).1 (mem_mid hi)
          exact ⟨this.1, by rw [if_neg hij]; exact this.2⟩
        · rintro ⟨h1, h2⟩
          by_cases e : i = j
          · rw [if_pos e] at h2; cases h2
          · rw [if_neg e] at h2
            exact mem_mid' ((hmem i).2 ⟨h1, h2⟩) e
      · rw [hget] at hl ⊢
        by_cases e : i = j
        · rw [if_pos e]
        · rw [if_neg e]
          by_cases e' : k = j
          · subst e'; exact hpre' i hi hilt
          · rw [if_neg e'] at hl; exact hclo k hk hl i hi hilt
theorem insS_quiet {Ok : Nat → List PV → Own → PV → Prop} {E : Env} {r : RIns} {nm : Nat} {st : St} {K : St → Prop} (hq : r.op.quiet = true) (hg : r.guard = none) :
    insS G Ok E r nm st K ↔ ∃ e, step st.σ nm (st.ev G) r.op = some e ∧ K (putW st r.dst e.v st.σ) := by
  obtain ⟨dst, op, guard, pre⟩ := r
  simp only at hq hg
  subst hg
  have hs : insS G Ok E ⟨dst, op, none, pre⟩ nm st K = opW G Ok ⟨dst, op, none, pre⟩ nm st (fun st' _ => K st') := by
    cases op <;> first | (simp [ROp.quiet] at hq; done) | rfl
  have ho : opW G Ok ⟨dst, op, none, pre⟩ nm st (fun st' _ => K st') ↔ ∃ e, step st.σ nm (st.ev G) op = some e ∧ K (putW st dst e.v (upAll st.σ e.up)) := by
    have : opW G Ok ⟨dst, op, none, pre⟩ nm st (fun st' _ => K st') = (match st with
      | ⟨tm, σ, nx, nt⟩ => match step σ nm (St.ev G ⟨tm, σ, nx, nt⟩) op with
        | some e => upAllK σ e.up fun σ' => putK ⟨tm, σ, nx, nt⟩ dst e.v σ' fun st' => K st'
        | none => False) := by
      cases op <;> first | (simp [ROp.quiet] at hq; done) | rfl
    rw [this]
    obtain ⟨tm, σ, nx, nt⟩ := st
    simp only
    cases step σ nm (St.ev G ⟨tm, σ, nx, nt⟩) op with
    | none => simp
    | some e => simp [upAllK_eq, putK_eq]
  rw [hs, ho]
  constructor
  · rintro ⟨e, he, hK⟩
    rw [quiet_up hq he] at hK
    exact ⟨e, he, hK⟩
  · rintro ⟨e, he, hK⟩
    refine ⟨e, he, ?_⟩
    rw [quiet_up hq he]
    exact hK

/-- Operations in the order of a list. -/
def opsL (G : Gl) (Ok : Nat → List PV → Own → PV → Prop) (E : Env) (ins : Nat → RIns) (nx0 : Nat) : List Nat → St → (St → Prop) → Prop
  | [], s, K => K s
  | i :: L, s, K => insS G Ok E (ins i) (nx0 + stride * i) s fun s' => opsL G Ok E ins nx0 L s' K

theorem opsL_of {Ok : Nat → List PV → Own → PV → Prop} {E : Env} (full : List RIns) : ∀ (l : List RIns) (k : Nat) (s : St) (K : St → Prop), full.drop k = l → opsS G Ok E l (nx0 + stride * k) s K → opsL G Ok E (fun i => full.getD i default) nx0 (List.range' k l.length) s K
  | [], k, s, K, _, h => h
  | r :: l, k, s, K, hd, h => by
    have hrk : full.getD k default = r := by
      have : (full.drop k)[0]? = some r := by rw [hd]; rfl
      rw [List.getElem?_drop] at this
      simp only [Nat.add_zero] at this
      simp [List.getD, this]
    have hdrop : full.drop (k + 1) = l := by
      have := congrArg (List.drop 1) hd
      rw [List.drop_drop] at this
      simpa using this
    have e : nx0 + stride * k + stride = nx0 + stride * (k + 1) := by rw [Nat.mul_succ]; omega
    simp only [opsS, forceN_eq, e] at h
    show insS G Ok E (full.getD k default) (nx0 + stride * k) s (fun s' => opsL G Ok E (fun i => full.getD i default) nx0 (List.range' (k + 1) l.length) s' K)
    rw [hrk]
    have mono : ∀ s', opsS G Ok E l (nx0 + stride * (k + 1)) s' K = opsL G Ok E (fun i => full.getD i default) nx0 (List.range' (k + 1) l.length) s' K := fun s' => opsL_eq full l (k + 1) s' K hdrop
    rw [show (fun s' => opsL G Ok E (fun i => full.getD i default) nx0 (List.range' (k + 1) l.length) s' K) = fun s' => opsS G Ok E l (nx0 + stride * (k + 1)) s' K from funext fun s' => (mono s').symm]
    exact h
where
  opsL_eq (full : List RIns) : ∀ (l : List RIns) (k : Nat) (s : St) (K : St → Prop), full.drop k = l → opsS G Ok E l (nx0 + stride * k) s K = opsL G Ok E (fun i => full.getD i default) nx0 (List.range' k l.length) s K
    | [], k, s, K, _ => rfl
    | r :: l, k, s, K, hd => by
      have hrk : full.getD k default = r := by
        have : (full.drop k)[0]? = some r := by rw [hd]; rfl
        rw [List.getElem?_drop] at this
        simp only [Nat.add_zero] at this
        simp [List.getD, this]
      have hdrop : full.drop (k + 1) = l := by
        have := congrArg (List.drop 1) hd
        rw [List.drop_drop] at this
        simpa using this
      have e : nx0 + stride * k + stride = nx0 + stride * (k + 1) := by rw [Nat.mul_succ]; omega
      simp only [opsS, forceN_eq, e]
      show _ = insS G Ok E (full.getD k default) (nx0 + stride * k) s (fun s' => opsL G Ok E (fun i => full.getD i default) nx0 (List.range' (k + 1) l.length) s' K)
      rw [hrk]
      congr 1
      funext s'
      exact opsL_eq full l (k + 1) s' K hdrop

theorem opsL_front {Ok : Nat → List PV → Own → PV → Prop} {E : Env} {j : Nat} {C : List Nat} {K : St → Prop} (hj : smallT (ins j) = true) : ∀ (A : List Nat) (s : St),
    (∀ i ∈ A, smallT (ins i) = true ∧ apartT (ins i) (ins j) = true ∧ calmPair (ins i) (ins j) = true) →
    opsL G Ok E ins nx0 (A ++ j :: C) s K → insS G Ok E (ins j) (nx0 + stride * j) s fun s' => opsL G Ok E ins nx0 (A ++ C) s' K
  | [], s, _, h => h
  | i :: A, s, hA, h => by
    obtain ⟨si, ap, cp⟩ := hA i (by simp)
    simp only [calmPair, Bool.and_eq_true, Option.isNone_iff_eq_none] at cp
    obtain ⟨⟨⟨gi, gj⟩, qi⟩, qj⟩ := cp
    obtain ⟨a1, a2, a3⟩ := apartT_spec ap
    obtain ⟨ri, di⟩ := smallT_spec si
    obtain ⟨rj, dj⟩ := smallT_spec hj
    obtain ⟨ei, hei, h⟩ := (insS_quiet qi gi).1 h
    have h := opsL_front hj A _ (fun k hk => hA k (by simp [hk])) h
    obtain ⟨ej, hej, h⟩ := (insS_quiet qj gj).1 h
    have evs : ∀ (r x : RIns) (v : AV), (∀ t ∈ r.reads, t < 1024) → (∀ d, x.dst = some d → d < 1024) → (∀ t ∈ r.reads, x.dst ≠ some t) → ∀ y ∈ r.op.operands, (putW s x.dst v s.σ).ev G y = s.ev G y := by
      intro r x v hr hx hne y hy
      cases y with
      | t n =>
        have hn : n ∈ r.reads := List.mem_append_left _ (List.mem_flatten.2 ⟨[n], List.mem_map.2 ⟨_, hy, rfl⟩, by simp⟩)
        show (putW s x.dst v s.σ).tm.get tdepth n = _
        rw [get_put (hr n hn) hx, if_neg (hne n hn)]
        rfl
      | c v => rfl
      | f g => rfl
      | g i => rfl
    rw [putW_σ] at hej h
    have hej' : step s.σ (nx0 + stride * j) (s.ev G) (ins j).op = some ej := step_frame hej (fun y hy => (evs (ins j) (ins i) ei.v rj di a1 y hy).symm) fun b _ => ⟨.of_eq rfl, fun _ => rfl⟩
    refine (insS_quiet qj gj).2 ⟨ej, hej', ?_⟩
    show insS G Ok E (ins i) (nx0 + stride * i) _ fun s' => opsL G Ok E ins nx0 (A ++ C) s' K
    refine (insS_quiet qi gi).2 ⟨ei, ?_, ?_⟩
    · rw [putW_σ]
      exact step_frame hei (fun y hy => evs (ins i) (ins j) ej.v ri dj a2 y hy) fun b _ => ⟨.of_eq rfl, fun _ => rfl⟩
    · rw [putW_σ, putW_comm dj di fun x y hx hy => (a3 y x hy hx).symm]
      exact h

theorem region_calm {E : Env} (hE : EnvOk P G E ro B w0 I0 gh) (hins : ∀ i o, ops[i]? = some o → chkIns P ops nt o (ins i) = true)
    (hpre : ∀ i o, ops[i]? = some o → (∀ x, (ins i).pre.testBit x = true → ∃ e ∈ o.after.toList, Region.binds .any e = true ∧ (e.on = x ∨ (ins e.on).pre.testBit x = true)) ∧ ∀ e ∈ o.after.toList, Region.binds .any e = true → e.on < i)
    (hap : ∀ i j, i < j → j < ops.size → apartT (ins i) (ins j) = true ∨ (ins j).pre.testBit i = true)
    (hcl : ∀ i j, i < j → j < ops.size → calmPair (ins i) (ins j) = true ∨ (ins j).pre.testBit i = true)
    (hn0 : gh.n0 ≤ nx0) {KK : St → Prop} (hQ : ∀ s' a' w', KK s' → s'.nt = nt → nx0 + stride * ops.size ≤ s'.nx → Sim P G B w0 I0 gh (fun b => b < s'.nx) s' a' w' → Q .normal a' w') :
    ∀ (fuel : Nat) (listed : Array Bool) (L : List Nat) (s : St) (a : Act) (w : World), L.length ≤ fuel → listed.size = ops.size → L.Pairwise (· < ·) → (∀ i, i ∈ L ↔ i < ops.size ∧ listed.getD i true = false) →
      (∀ j, j < ops.size → listed.getD j true = true → ∀ i, (ins j).pre.testBit i = true → i < ops.size → listed.getD i true = true) → s.nt = nt → nx0 + stride * ops.size ≤ s.nx →
      opsL G (OkC P G) E ins nx0 L s KK → Sim P G B w0 I0 gh (NS nx0 L s) s a w → wpAnyIn (Fw ro) n P .any ops Q fuel listed a w := by
  intro fuel
  have done : ∀ (s : St) (a : Act) (w : World), s.nt = nt → nx0 + stride * ops.size ≤ s.nx → KK s → Sim P G B w0 I0 gh (NS nx0 [] s) s a w → Q .normal a w :=
    fun s a w hnt hnx hr hsim => hQ s a w hr hnt hnx (hsim.weaken fun b h => h.1)
  have noReady : ∀ (listed : Array Bool) (L : List Nat), listed.size = ops.size → L.Pairwise (· < ·) → (∀ i, i ∈ L ↔ i < ops.size ∧ listed.getD i true = false) → Region.ready .any ops listed = [] → L = [] := by
    intro listed L hsz hpw hmem hr
    cases L with
    | nil => rfl
    | cons j C =>
      exfalso
      obtain ⟨hj1, hj2⟩ := (hmem j).1 (by simp)
      have hoj : ops[j]? = some ops[j] := Array.getElem?_eq_getElem hj1
      have : j ∈ Region.ready .any ops listed := mem_ready.2 ⟨hj2, ops[j], hoj, fun e he hb => by
        have hlt := (hpre j _ hoj).2 e (by simpa using he) hb
        rw [getD_false (by omega)]
        cases hl : listed.getD e.on true with
        | true => rfl
        | false =>
          have hin := (hmem e.on).2 ⟨by omega, hl⟩
          simp only [List.pairwise_cons] at hpw
          rcases List.mem_cons.1 hin with h | h
          · omega
          · have := hpw.1 _ h; omega⟩
      rw [hr] at this; cases this
  induction fuel with
  | zero =>
    intro listed L s a w hlen hsz hpw hmem hclo hnt hnx hr hsim
    have hL : L = [] := List.eq_nil_of_length_eq_zero (by omega)
    subst hL
    refine ⟨?_, done s a w hnt hnx hr hsim⟩
    cases hrd : Region.ready .any ops listed with
    | nil => rfl
    | cons j l =>
      exfalso
      have : j ∈ Region.ready .any ops listed := by rw [hrd]; simp
      obtain ⟨h1, oj, h2, _⟩ := mem_ready.1 this
      have := (hmem j).2 ⟨(Array.getElem?_eq_some_iff.1 h2).1, h1⟩
      cases this
  | succ fuel ih =>
    intro listed L s a w hlen hsz hpw hmem hclo hnt hnx hr hsim
    refine ⟨fun h0 => ?_, fun j hj => ?_⟩
    · have := noReady listed L hsz hpw hmem h0
      subst this
      exact done s a w hnt hnx hr hsim
    · obtain ⟨hj1, oj, hoj, hall⟩ := mem_ready.1 hj
      have hjlt : j < ops.size := (Array.getElem?_eq_some_iff.1 hoj).1
      have hjL : j ∈ L := (hmem j).2 ⟨hjlt, hj1⟩
      obtain ⟨A, C, rfl⟩ := List.append_of_mem hjL
      have hpre' : ∀ i, (ins j).pre.testBit i = true → i < ops.size → listed.getD i true = true := by
        intro i hi hilt
        obtain ⟨e, he, hb, hx⟩ := (hpre j oj hoj).1 i hi
        have hl := hall e (by simpa using he) hb
        have helt := (hpre j oj hoj).2 e he hb
        rw [getD_false (by omega)] at hl
        rcases hx with rfl | hx
        · exact hl
        · exact hclo e.on (by omega) hl i hx hilt
      have hA : ∀ i ∈ A, i < j ∧ i < ops.size ∧ (ins j).pre.testBit i = false := by
        intro i hi
        have hij : i < j := (List.pairwise_append.1 hpw).2.2 i hi j (by simp)
        refine ⟨hij, by omega, ?_⟩
        cases hb : (ins j).pre.testBit i with
        | false => rfl
        | true =>
          have h1 := hpre' i hb (by omega)
          have h2 := ((hmem i).1 (by simp [hi])).2
          rw [h1] at h2; cases h2
      have hsm : ∀ i, i < ops.size → smallT (ins i) = true := by
        intro i hi
        have := hins i _ (Array.getElem?_eq_getElem hi)
        simp only [chkIns, Bool.and_eq_true] at this
        exact this.1.1.2
      have hfr := opsL_front (hsm j hjlt) A s (fun i hi => by
        obtain ⟨k1, k2, k3⟩ := hA i hi
        exact ⟨hsm i k2, (hap i j k1 hjlt).resolve_right (by rw [k3]; simp), (hcl i j k1 hjlt).resolve_right (by rw [k3]; simp)⟩) hr
      have hne : ∀ k ∈ A ++ C, k ≠ j := by
        intro k hk e
        subst e
        rcases List.mem_append.1 hk with h | h
        · exact absurd (hA k h).1 (Nat.lt_irrefl _)
        · have := (List.pairwise_append.1 hpw).2.1
          rw [List.pairwise_cons] at this
          exact absurd (this.1 k h) (Nat.lt_irrefl _)
      have hb : ∀ j, j < ops.size → nx0 + stride * j + stride ≤ s.nx := by
        intro j hj
        have e : stride * (j + 1) ≤ stride * ops.size := Nat.mul_le_mul_left _ hj
        rw [Nat.mul_succ] at e; omega
      refine insS_wp (s := s) (L := A ++ C) hE hoj (hnt ▸ hins j oj hoj) hn0 (hb j hjlt) (fun k hk => ⟨(hne k hk).symm, hb k ((hmem k).1 (mem_mid hk)).1⟩) hfr
        (hsim.weaken fun b h => ⟨h.1, fun k hk => h.2 k ((List.mem_cons.1 hk).elim (fun e => by rw [e]; simp) fun e => mem_mid e)⟩) fun s' a' w' hK hnt' hnx' hs => ?_
      have hget : ∀ i, (listed.setIfInBounds j true).getD i true = if i = j then true else listed.getD i true := by
        intro i
        simp only [Array.getD_eq_getD_getElem?, Array.getElem?_setIfInBounds]
        by_cases e : j = i
        · subst e; simp [hsz, hjlt]
        · have : ¬ i = j := fun h => e h.symm
          simp [e, this]
      refine ih _ (A ++ C) s' a' w' (by simp at hlen ⊢; omega) (by simpa using hsz) ?_ (fun i => ?_) (fun k hk hl i hi hilt => ?_) (hnt'.trans hnt) (by omega) hK hs
      · exact hpw.sublist (by simp)
      · rw [hget]
        constructor
        · intro hi
          have hij := hne i hi
          have := (hmem i).1 (mem_mid hi)
          exact ⟨this.1, by rw [if_neg hij]; exact this.2⟩
        · rintro ⟨h1, h2⟩
          by_cases e : i = j
          · rw [if_pos e] at h2; cases h2
          · rw [if_neg e] at h2
            exact mem_mid' ((hmem i).2 ⟨h1, h2⟩) e
      · rw [hget] at hl ⊢
        by_cases e : i = j
        · rw [if_pos e]
        · rw [if_neg e]
          by_cases e' : k = j
          · subst e'; exact hpre' i hi hilt
          · rw [if_neg e'] at hl; exact hclo k hk hl i hi hilt
end
end Go.Ab

/- Dropping and numbering anew is sound. Under: nothing. -/
namespace Go.Ab
open Go.RowKit

theorem idxIn_spec : ∀ {l : List Nat} {b k n : Nat}, idxIn l b k = some n → k ≤ n ∧ n < k + l.length ∧ l[n - k]? = some b
  | [], _, _, _, h => by simp [idxIn] at h
  | x :: l, b, k, n, h => by
    simp only [idxIn] at h
    split at h
    · rename_i hx
      cases h
      simp at hx
      subst hx
      exact ⟨Nat.le_refl _, by simp, by simp⟩
    · obtain ⟨h1, h2, h3⟩ := idxIn_spec h
      refine ⟨by omega, by simp; omega, ?_⟩
      have e : n - k = (n - (k + 1)) + 1 := by omega
      rw [e]; simpa using h3

theorem find_normS (f : Nat → Option Nat) (σ : Store) : ∀ (l : List Nat) (k n : Nat) (o : SObj), find (normS f σ l k) n = some o → k ≤ n ∧ ∃ b o', l[n - k]? = some b ∧ find σ b = some o' ∧ o = renO f o'
  | [], _, _, _, h => by simp [normS, find] at h
  | b :: l, k, n, o, h => by
    simp only [normS, find] at h
    split at h
    · rename_i hk
      simp at hk; subst hk
      split at h
      · rename_i o' ho'
        cases h
        exact ⟨Nat.le_refl _, b, o', by simp, ho', rfl⟩
      · cases h
    · obtain ⟨h1, b', o', h2, h3, h4⟩ := find_normS f σ l (k + 1) n o h
      refine ⟨by omega, b', o', ?_, h3, h4⟩
      have e : n - k = (n - (k + 1)) + 1 := by omega
      rw [e]; simpa using h2

theorem reach_nodup (σ : Store) : ∀ (n : Nat) (todo acc : List Nat), acc.Nodup → (reach σ n todo acc).Nodup
  | 0, _, acc, h => by simpa [reach] using h
  | n + 1, [], acc, h => by simpa [reach] using h
  | n + 1, b :: todo, acc, h => by
    simp only [reach]
    split
    · exact reach_nodup σ n todo acc h
    · rename_i hb
      split
      · exact reach_nodup σ n todo acc h
      · refine reach_nodup σ n _ _ ?_
        rw [List.nodup_append]
        refine ⟨h, by simp, fun x hx y hy => ?_⟩
        simp at hy; subst hy
        intro e; subst e
        simp only [List.any_eq_false, beq_iff_eq] at hb
        exact hb x hx rfl

theorem renO_es (f : Nat → Option Nat) (o : SObj) : (renO f o).es = o.es := by cases o <;> rfl
theorem renO_len (f : Nat → Option Nat) (o : SObj) : (renO f o).len = o.len := by cases o <;> simp [renO, SObj.len]
theorem renO_sealed (f : Nat → Option Nat) (o : SObj) : (renO f o).sealed = o.sealed := by cases o <;> rfl

theorem renL_map (f : Nat → Option Nat) : ∀ l : List AV, renL f l = l.map (renA f)
  | [] => rfl
  | a :: l => by simp only [renL, List.map_cons]; rw [renL_map f l]

theorem renO_row (f : Nat → Option Nat) (o : SObj) (i : Nat) (row : List AV) (h : (renO f o).row? i = some row) : ∃ row', o.row? i = some row' ∧ row = row'.map (renA f) := by
  cases o with
  | map l => simp [renO, SObj.row?] at h
  | arr e r s =>
    refine ⟨row, h, ?_⟩
    simp only [renO, SObj.row?] at h
    split at h
    · cases h
      simp only [List.map_map]
      apply List.map_congr_left
      intro p _; rfl
    · cases h
  | box e r s =>
    simp only [renO, SObj.row?, List.getElem?_map, Option.map_eq_some_iff] at h
    obtain ⟨row', h1, rfl⟩ := h
    exact ⟨row', h1, renL_map f row'⟩

section
variable {B : Nat} {w0 : World} {I0 : Imm} {w : World} {I : Imm} {ι : Nat → Option Nat} {σ : Store} {D : Nat → Prop} {ns : List Nat}

/-- The numbers' blocks. -/
def normι (ι : Nat → Option Nat) (ns : List Nat) : Nat → Option Nat := fun n => (ns[n]?).bind ι
def normD (ns : List Nat) : Nat → Prop := fun n => n < ns.length

theorem norm_find {n : Nat} {o : SObj} (h : find (normS (fun b => idxIn ns b 0) σ ns 0) n = some o) : ∃ b o', ns[n]? = some b ∧ find σ b = some o' ∧ o = renO (fun b => idxIn ns b 0) o' ∧ normι ι ns n = ι b := by
  obtain ⟨_, b, o', h1, h2, h3⟩ := find_normS _ _ _ _ _ _ h
  simp only [Nat.sub_zero] at h1
  exact ⟨b, o', h1, h2, h3, by simp [normι, h1]⟩

theorem RepA.norm {v : Value} {a : AV} (h : RepA w I ι σ D v a) : RepA w I (normι ι ns) (normS (fun b => idxIn ns b 0) σ ns 0) (normD ns) v (renA (fun b => idxIn ns b 0) a) := by
  have key : ∀ {b n : Nat}, idxIn ns b 0 = some n → normD ns n ∧ ns[n]? = some b := by
    intro b n h
    obtain ⟨_, h2, h3⟩ := idxIn_spec h
    exact ⟨by simpa [normD] using h2, by simpa using h3⟩
  induction h with
  | pv h => simp only [renA]; exact .pv h
  | emp es => simp only [renA]; exact .emp es
  | fsl h => simp only [renA]; exact .fsl h
  | ptr hD h1 h =>
    simp only [renA]
    split
    · rename_i n hn
      obtain ⟨k1, k2⟩ := key hn
      refine .ptr k1 h1 fun o ho => ?_
      obtain ⟨b', o', g1, g2, g3, g4⟩ := norm_find (ι := ι) ho
      rw [k2] at g1; cases g1
      obtain ⟨r, hr, hv⟩ := h o' g2
      exact ⟨r, g4.trans hr, by rw [g3, renO_es]; exact hv⟩
    · exact .undef _
  | own hD h1 h =>
    simp only [renA]
    split
    · rename_i n hn
      obtain ⟨k1, k2⟩ := key hn
      refine .own k1 h1 fun o ho => ?_
      obtain ⟨b', o', g1, g2, g3, g4⟩ := norm_find (ι := ι) ho
      rw [k2] at g1; cases g1
      obtain ⟨p, cap, hv, hlen, hcap, hcase⟩ := h o' g2
      refine ⟨p, cap, hv, by rw [g3, renO_len]; exact hlen, ⟨hcap.1, by rw [g3, renO_len]; exact hcap.2⟩, ?_⟩
      rcases hcase with hx | ⟨r, c, T, fz, h1, h2, h3, h4⟩
      · exact .inl hx
      · exact .inr ⟨r, c, T, fz, g4.trans h1, by rw [g3, renO_es]; exact h2, h3, by rw [g3, renO_es]; exact h4⟩
    · exact .undef _
  | mref hD h1 h =>
    simp only [renA]
    split
    · rename_i n hn
      obtain ⟨k1, k2⟩ := key hn
      refine .mref k1 h1 fun o ho => ?_
      obtain ⟨b', o', g1, g2, g3, g4⟩ := norm_find (ι := ι) ho
      rw [k2] at g1; cases g1
      obtain ⟨r, hr, hv⟩ := h o' g2
      exact ⟨r, g4.trans hr, hv⟩
    · exact .undef _
  | agg hl _ ih =>
    simp only [renA, renL_map]
    refine .agg (by simpa using hl) fun j x q hx hq => ?_
    rw [List.getElem?_map, Option.map_eq_some_iff] at hq
    obtain ⟨q', hq', rfl⟩ := hq
    exact ih j x q' hx hq'
  | tup hl _ ih =>
    simp only [renA, renL_map]
    refine .tup (by simpa using hl) fun j x q hx hq => ?_
    rw [List.getElem?_map, Option.map_eq_some_iff] at hq
    obtain ⟨q', hq', rfl⟩ := hq
    exact ih j x q' hx hq'
  | func hl hl' _ _ ih ih' =>
    simp only [renA, renL_map]
    refine .func (by simpa using hl) (by simpa using hl') (fun j x q hx hq => ?_) (fun j x q hx hq => ?_)
    · rw [List.getElem?_map, Option.map_eq_some_iff] at hq
      obtain ⟨q', hq', rfl⟩ := hq
      exact ih j x q' hx hq'
    · rw [List.getElem?_map, Option.map_eq_some_iff] at hq
      obtain ⟨q', hq', rfl⟩ := hq
      exact ih' j x q' hx hq'
  | anyB b => simp only [renA]; exact .anyB b
  | yld hD h => simp only [renA]; exact .undef _
  | mark v k => simp only [renA]; exact .undef _
  | undef v => simp only [renA]; exact .undef v

theorem SimS.norm (hs : SimS B w I ι σ D) (hnd : ns.Nodup) : SimS B w I (normι ι ns) (normS (fun b => idxIn ns b 0) σ ns 0) (normD ns) := by
  refine ⟨hs.bnd, fun n o h => ?_, fun n n' o o' r h h' e e' => ?_, fun n o r h e => ?_, fun n o r k h e hi => ?_, fun n o h => ?_⟩
  · obtain ⟨b, o', h1, h2, h3, h4⟩ := norm_find (ι := ι) h
    exact (List.getElem?_eq_some_iff.1 h1).1
  · obtain ⟨b, o₁, h1, h2, h3, h4⟩ := norm_find (ι := ι) h
    obtain ⟨b', o₁', h1', h2', h3', h4'⟩ := norm_find (ι := ι) h'
    have : b = b' := hs.inj b b' o₁ o₁' r h2 h2' (h4 ▸ e) (h4' ▸ e')
    subst this
    exact (List.getElem?_inj (List.getElem?_eq_some_iff.1 h1).1 hnd).1 (h1.trans h1'.symm)
  · obtain ⟨b, o₁, h1, h2, h3, h4⟩ := norm_find (ι := ι) h
    exact hs.ge b o₁ r h2 (h4 ▸ e)
  · obtain ⟨b, o₁, h1, h2, h3, h4⟩ := norm_find (ι := ι) h
    rw [h3, renO_sealed, renO_len, renO_es]
    exact hs.sep b o₁ r k h2 (h4 ▸ e) hi
  · obtain ⟨b, o₁, h1, h2, h3, h4⟩ := norm_find (ι := ι) h
    have hob := hs.obj b o₁ h2
    subst h3
    have rows : RowsRep w I ι σ D b o₁ → RowsRep w I (normι ι ns) (normS (fun b => idxIn ns b 0) σ ns 0) (normD ns) n (renO (fun b => idxIn ns b 0) o₁) := by
      intro hR
      rcases hR with ⟨g1, g2⟩ | ⟨r, c, T, fz, g1, g2, g3, g4, g5⟩
      · exact .inl ⟨h4.trans g1, by rw [renO_len]; exact g2⟩
      · refine .inr ⟨r, c, T, fz, h4.trans g1, g2, g3, by rw [renO_len, renO_es]; exact g4, fun i row hrow => ?_⟩
        obtain ⟨row', k1, rfl⟩ := renO_row _ _ _ _ hrow
        obtain ⟨k2, k3⟩ := g5 i row' k1
        refine ⟨by rw [List.length_map, renO_es]; exact k2, fun j v hv => ?_⟩
        rw [List.getElem?_map, Option.map_eq_some_iff] at hv
        obtain ⟨v', hv', rfl⟩ := hv
        obtain ⟨x, hx, hrep⟩ := k3 j v' hv'
        exact ⟨x, by rw [renO_es]; exact hx, hrep.1, hrep.2.norm⟩
    cases o₁ with
    | arr e r s => exact rows hob
    | box e r s => exact rows hob
    | map ents =>
      obtain ⟨r, es, clock, g1, g2, g3, g4⟩ := hob
      have hlk : ∀ (f : Nat → Option Nat) (k : List UInt8) (l : List (List UInt8 × AV)), lookupE k (l.map fun (k, v) => (k, renA f v)) = (lookupE k l).map (renA f) := by
        intro f k l
        induction l with
        | nil => rfl
        | cons x l ih =>
          obtain ⟨a, v⟩ := x
          simp only [List.map_cons, lookupE]
          split
          · rfl
          · exact ih
      refine ⟨r, es, clock, h4.trans g1, g2, fun e he => ?_, fun k v hv => ?_⟩
      · obtain ⟨k, v, a1, a2, a3⟩ := g3 e he
        exact ⟨k, _, a1, by rw [hlk, a2]; rfl, a3.norm⟩
      · rw [hlk, Option.map_eq_some_iff] at hv
        obtain ⟨v', hv', _⟩ := hv
        exact g4 k v' hv'
end

theorem get_normT (f : Nat → Option Nat) (tm : T) : ∀ (l : List Nat) (acc : T) (t : Nat), (normT f tm l acc).get tdepth t = acc.get tdepth t ∨ (∃ u, u % 2 ^ tdepth = t % 2 ^ tdepth ∧ (normT f tm l acc).get tdepth t = renA f (tm.get tdepth u))
  | [], acc, t => .inl rfl
  | u :: l, acc, t => by
    simp only [normT]
    rcases get_normT f tm l (acc.set tdepth u (renA f (tm.get tdepth u))) t with h | h
    · rw [h, get_set]
      by_cases e : t % 2 ^ tdepth = u % 2 ^ tdepth
      · rw [if_pos e]; exact .inr ⟨u, e.symm, rfl⟩
      · rw [if_neg e]; exact .inl rfl
    · exact .inr h

theorem get_mod : ∀ (d : Nat) (t : T) (n m : Nat), n % 2 ^ d = m % 2 ^ d → t.get d n = t.get d m
  | 0, t, n, m, _ => by cases t <;> simp [T.get]
  | d + 1, t, n, m, h => by
    have hmod : ∀ x : Nat, x % 2 ^ (d + 1) = x % 2 + 2 * (x / 2 % 2 ^ d) := by
      intro x; rw [Nat.pow_succ, Nat.mul_comm, Nat.mod_mul]
    rw [hmod, hmod] at h
    have h2 : n % 2 = m % 2 := by omega
    have hq : n / 2 % 2 ^ d = m / 2 % 2 ^ d := by omega
    cases t with
    | nil => simp [T.get]
    | leaf v => simp [T.get]
    | node l r =>
      simp only [T.get, h2]
      split
      · exact get_mod d l _ _ hq
      · exact get_mod d r _ _ hq

theorem get_nil (d n : Nat) : T.get d .nil n = .undef := by cases d <;> simp [T.get]

theorem Sim.norm {P : Program} {G : Gl} {B : Nat} {w0 : World} {I0 : Imm} {N : Nat → Prop} {s : St} {a : Act} {w : World} (h : Sim P G B w0 I0 .top N s a w) (live : List Nat) :
    Sim P G B w0 I0 .top (fun b => b < (norm live s).nx) (Ab.norm live s) a w := by
  obtain ⟨I, ι, D, hx⟩ := h
  have hnd : (normNames live s).Nodup := reach_nodup _ _ _ _ (by simp)
  obtain ⟨hs, b1, b2, b3, b4⟩ := hx.core
  refine ⟨I, normι ι (normNames live s), normD (normNames live s), ⟨hs.norm hnd, b1, b2, b3, b4⟩, fun b hb => hb, hx.dfs, hx.size, hx.glob, fun t ht => ?_, fun _ _ h => h.elim, fun _ _ => .inl trivial, fun _ _ h => h.elim, fun _ h => by cases h⟩
  show RepA w I _ _ _ _ ((normT _ s.tm live .nil).get tdepth t)
  rcases get_normT (fun b => idxIn (normNames live s) b 0) s.tm live .nil t with h | ⟨u, hu, h⟩
  · rw [h, get_nil]; exact .undef _
  · rw [h, get_mod tdepth s.tm u t hu]
    exact (hx.tm t ht).norm
end Go.Ab
