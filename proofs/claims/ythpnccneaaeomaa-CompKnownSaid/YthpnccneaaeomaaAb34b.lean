/- A function's contract from its own code. Under: nothing. -/
import Derived.Test.YthpnccneaaeomaaAb34a
namespace Go.Ab
open Go.RowKit

def chkRes (P : Program) : List ResultVar → List RRes → Bool
  | [], [] => true
  | .tmp t :: l, .tmp u :: m => t == u && decide (t < 1024) && chkRes P l m
  | .cell a t :: l, .cell b agg n :: m => a == b && decide (a < 1024) && chkSize P t n && chkAgg P t agg && chkRes P l m
  | _, _ => false

/-- The model's function is that of the own code. -/
def chkFn (P : Program) (g : Nat) (c : RFn) : Bool := match P.funcs[g]? with
  | some fn => (match fn.body with
    | some code => !(fn.name == "runtime.NumGoroutine") && fn.ntmps == c.ntmps && decide (c.nparams ≤ c.ntmps) && decide (c.nparams ≤ 1024) && chkRes P fn.results.toList c.res && chkC P c.ntmps code c.body
    | none => false)
  | none => false

def argsT : Nat → List AV → T → T
  | _, [], t => t
  | i, p :: l, t => argsT (i + 1) l (t.set tdepth i p)

theorem argsK_eq {α : Sort _} : ∀ (l : List PV) (i : Nat) (t : T) (K : T → α), argsK i l t K = K (argsT i (l.map .pv) t)
  | [], i, t, K => rfl
  | p :: l, i, t, K => by simp only [argsK, List.map_cons, argsT, setK_eq]; exact argsK_eq l _ _ K

theorem argsAK_eq {α : Sort _} : ∀ (l : List AV) (i : Nat) (t : T) (K : T → α), argsAK i l t K = K (argsT i l t)
  | [], i, t, K => rfl
  | p :: l, i, t, K => by simp only [argsAK, argsT, forceA_eq, setK_eq]; exact argsAK_eq l _ _ K

theorem get_argsT : ∀ (l : List AV) (i : Nat) (t : T) (n : Nat), n < 1024 → i + l.length ≤ 1024 → (argsT i l t).get tdepth n = if h : i ≤ n ∧ n < i + l.length then l[n - i]'(by omega) else t.get tdepth n
  | [], i, t, n, _, _ => by simp only [argsT, List.length_nil]; rw [dif_neg (by omega)]
  | p :: l, i, t, n, hn, hi => by
    simp only [argsT]
    simp only [List.length_cons] at hi
    rw [get_argsT l (i + 1) _ n hn (by omega)]
    by_cases h : i + 1 ≤ n ∧ n < i + 1 + l.length
    · rw [dif_pos h, dif_pos (by simp only [List.length_cons]; omega)]
      have e : n - i = (n - (i + 1)) + 1 := by omega
      simp only [e, List.getElem_cons_succ]
    · rw [dif_neg h, get_set]
      have e1 : n % 2 ^ tdepth = n := Nat.mod_eq_of_lt hn
      have e2 : i % 2 ^ tdepth = i := Nat.mod_eq_of_lt (by show i < 1024; omega)
      rw [e1, e2]
      by_cases h2 : n = i
      · subst h2
        rw [if_pos rfl, dif_pos (by simp only [List.length_cons]; omega)]
        simp
      · rw [if_neg h2, dif_neg (by simp only [List.length_cons]; omega)]

section
variable {P : Program} {G : Gl} {B : Nat} {w0 : World} {I0 : Imm} {w : World} {I : Imm} {ι : Nat → Option Nat} {σ : Store} {D : Nat → Prop}

theorem load_run (hs : SimS B w I ι σ D) {x : Value} {a : AV} {ev : RA → AV} {y : RA} {t n nm : Nat} {agg : Bool} {e : Eff} (hsz : chkSize P t n = true) (hg : chkAgg P t agg = true) (hev : ev y = a) (hx : RepA w I ι σ D x a)
    (h : step σ nm ev (.load agg n y) = some e) : ∃ ad v, x = .pointer (some ad) ∧ (loadVar t ad).run P w = .ok v w ∧ RepA w I ι σ D v e.v := by
  simp only [step, hev] at h
  split at h
  · rename_i b i j
    split at h
    · rename_i o ho
      split at h
      · rename_i row hrow
        split at h
        · rename_i hjn
          split at h
          · rename_i v hv
            cases h
            cases hx with
            | ptr hD hone hx =>
              obtain ⟨r, hr, rfl⟩ := hx o ho
              obtain ⟨r', c, T, fz, k1, k2, k3, k4, k5, k6⟩ := row_cells hs ho hrow
              rw [hr] at k1; cases k1
              obtain ⟨v', hv', hrep⟩ := run_loadVar (w := w) (o := i * o.es + j) (r := r) hsz hg hv (by simp; omega) (fun k q hq => by
                have hk : k < n := by have := (List.getElem?_eq_some_iff.1 hq).1; simp at this; omega
                rw [List.getElem?_take_of_lt hk, List.getElem?_drop] at hq
                obtain ⟨x', hx', hrep⟩ := k6 (j + k) q hq
                exact ⟨x', by rw [cell_of k2, Nat.add_assoc]; exact hx', hrep.2⟩)
              exact ⟨_, v', rfl, hv', hrep⟩
          · cases h
        · cases h
      · cases h
    · cases h
  · rename_i cs
    split at h
    · rename_i hn
      split at h
      · rename_i v hv
        cases h
        cases hx with
        | pv hx =>
          cases hx with
          | ref f ha hp hr =>
            rename_i a
            obtain ⟨ab, ao, as⟩ := a
            simp only at ha; subst ha
            obtain ⟨v', hv', hrep⟩ := run_loadVar (w := w) (I := I) (ι := ι) (σ := σ) (D := D) (o := ao) (r := ab) hsz hg hv (by simp; omega) (fun k q hq => by
              have hk : k < n := by have := (List.getElem?_eq_some_iff.1 hq).1; simp at this; omega
              simp only [List.getElem?_map, Option.map_eq_some_iff] at hq
              obtain ⟨q', hq', rfl⟩ := hq
              rw [List.getElem?_take_of_lt hk] at hq'
              exact ⟨f k, (hp k (by omega)).1, .pv (hr k q' hq')⟩)
            exact ⟨_, v', rfl, hv', hrep⟩
      · cases h
    · cases h
  · cases h

/-- The named results' values. -/
def resSem (tmps : Array Value) : ResultVar → Sem Value
  | .tmp t => pure (tmps.getD t undef)
  | .cell a t => do loadVar t (← asAddr (tmps.getD a undef))

theorem run_res {gh : Gh} {N : Nat → Prop} {s : St} {a : Act} (hx : SimX P G B w0 I0 gh N s a w I ι D) : ∀ (l : List ResultVar) (m : List RRes) (vs : List AV), chkRes P l m = true → resAs G s m = some vs →
    ∃ xs : List Value, (l.mapM (resSem a.tmps)).run P w = .ok xs w ∧ xs.length = vs.length ∧ ∀ (j : Nat) (x : Value) (q : AV), xs[j]? = some x → vs[j]? = some q → RepA w I ι s.σ D x q
  | [], [], vs, _, h => by simp only [resAs] at h; cases h; exact ⟨[], by simp, rfl, fun j x q hx => by simp at hx⟩
  | r :: l, c :: m, vs, hk, h => by
    simp only [resAs] at h
    split at h
    · rename_i v hv
      split at h
      · rename_i vs' hvs
        cases h
        have hk2 : chkRes P l m = true := by
          cases r <;> cases c <;> simp only [chkRes, Bool.and_eq_true] at hk
          · exact hk.2
          · cases hk
          · cases hk
          · exact hk.2
        obtain ⟨xs, h1, h2, h3⟩ := run_res hx l m vs' hk2 hvs
        have one : ∃ x, (resSem a.tmps r).run P w = .ok x w ∧ RepA w I ι s.σ D x v := by
          cases r with
          | tmp t =>
            cases c with
            | tmp u =>
              simp only [chkRes, Bool.and_eq_true, beq_iff_eq, decide_eq_true_eq] at hk
              obtain ⟨⟨rfl, hlt⟩, _⟩ := hk
              simp only [resA] at hv; cases hv
              exact ⟨_, rfl, hx.tm t hlt⟩
            | cell u g n => simp [chkRes] at hk
          | cell t ty =>
            cases c with
            | tmp u => simp [chkRes] at hk
            | cell u g n =>
              simp only [chkRes, Bool.and_eq_true, beq_iff_eq, decide_eq_true_eq] at hk
              obtain ⟨⟨⟨⟨rfl, hlt⟩, hsz⟩, hg⟩, _⟩ := hk
              simp only [resA] at hv
              split at hv
              · rename_i e he
                cases hv
                obtain ⟨ad, v, e1, e2, e3⟩ := load_run hx.core.sims hsz hg rfl (hx.tm t hlt) he
                exact ⟨v, by simp [resSem, e1, asAddr, e2], e3⟩
              · cases hv
        obtain ⟨x, g1, g2⟩ := one
        refine ⟨x :: xs, ?_, by simp [h2], fun j y q hy hq => ?_⟩
        · rw [List.mapM_cons]
          simp [g1, h1]
        · cases j with
          | zero => simp at hy hq; subst hy; subst hq; exact g2
          | succ j => simp at hy hq; exact h3 j y q hy hq
      · cases h
    · cases h
  | [], _ :: _, _, hk, _ => by simp [chkRes] at hk
  | _ :: _, [], _, hk, _ => by simp [chkRes] at hk

theorem results_run {gh : Gh} {N : Nat → Prop} {s : St} {a : Act} {fn : Func} {m : List RRes} {vs : List AV} (hx : SimX P G B w0 I0 gh N s a w I ι D) (hk : chkRes P fn.results.toList m = true) (h : resAs G s m = some vs) :
    ∃ v, (results fn a.tmps).run P w = .ok v w ∧ RepA w I ι s.σ D v (resPV vs) := by
  obtain ⟨xs, h1, h2, h3⟩ := run_res hx _ _ _ hk h
  have hr : (results fn a.tmps).run P w = .ok (if h : xs.toArray.size = 1 then xs.toArray[0] else .tuple xs.toArray) w := by
    have e : results fn a.tmps = (do let vs ← fn.results.mapM (resSem a.tmps); pure (if h : vs.size = 1 then vs[0] else .tuple vs)) := by
      unfold results
      congr 1
    rw [e, Array.mapM_eq_mapM_toList]
    simp [h1]
  refine ⟨_, hr, ?_⟩
  cases xs with
  | nil =>
    have : vs = [] := List.eq_nil_of_length_eq_zero h2.symm
    subst this
    exact .tup rfl fun j x q hx => by simp at hx
  | cons x xs =>
    cases xs with
    | nil =>
      cases vs with
      | nil => simp at h2
      | cons v vs =>
        have : vs = [] := List.eq_nil_of_length_eq_zero (by simpa using h2.symm)
        subst this
        exact h3 0 x v rfl rfl
    | cons y ys =>
      cases vs with
      | nil => simp at h2
      | cons v vs =>
        cases vs with
        | nil => simp at h2
        | cons v' vs =>
          have : ¬ (x :: y :: ys).toArray.size = 1 := by simp
          rw [dif_neg this]
          exact .tup (by simpa using h2) fun j z q hz hq => h3 j z q (by simpa using hz) hq
end


theorem leaves_of {P : Program} {G : Gl} {B : Nat} {w0 : World} {I0 : Imm} {gh : Gh} {N : Nat → Prop} {s : St} {I : Imm} {ι : Nat → Option Nat} {D : Nat → Prop} {F : Fence} {n : Nat} {fn : Func} {m : List RRes} {vs : List AV} {R : Ending → World → Prop} {tmps : Array Value}
    (hk : chkRes P fn.results.toList m = true) (h : resAs G s m = some vs) : ∀ (rs : List Nat) (ds : List Deferred) (w : World), ds.map (·.target) = rs.map Target.collected → rs.Nodup → (∀ r ∈ rs, B ≤ r ∧ (∀ o, ¬ gh.keep r o) ∧ w.heap[r]? = some (.deferred (some []))) →
      SimX P G B w0 I0 gh N s { tmps := tmps, defers := ds } w I ι D →
      (∀ w' v, SimX P G B w0 I0 gh N s { tmps := tmps, defers := [] } w' I ι D → RepA w' I ι s.σ D v (resPV vs) → R (.returned v) w') → LeavesInM F n P fn tmps R ds .returning w
  | [], [], w, _, _, _, hx, hR => by
    obtain ⟨v, hv, hrep⟩ := results_run hx hk h
    exact ⟨v, hv, hR w v hx hrep⟩
  | r :: rs, d :: ds, w, hm, hnd, hr, hx, hR => by
    simp only [List.map_cons, List.cons.injEq] at hm
    obtain ⟨hm1, hm2⟩ := hm
    rw [List.nodup_cons] at hnd
    obtain ⟨hB, hkp, hh⟩ := hr r (by simp)
    have hr' : ∀ r' ∈ rs, B ≤ r' ∧ (∀ o, ¬ gh.keep r' o) ∧ (w.putObj r (.deferred none)).heap[r']? = some (.deferred (some [])) := fun r' hr' => by
      have hne : r' ≠ r := fun e => hnd.1 (e ▸ hr')
      exact ⟨(hr r' (by simp [hr'])).1, (hr r' (by simp [hr'])).2.1, (World.putObj_heap_other hne).trans (hr r' (by simp [hr'])).2.2⟩
    refine ⟨by simp, .inl ⟨r, w.putObj r (.deferred none), hm1, run_takeDeferred hh, ?_⟩⟩
    exact leaves_of hk h rs ds _ hm2 hnd.2 hr' (hx.put_mark hh hB ⟨rs, hm2, hnd.2, hr'⟩ hkp) hR
  | [], _ :: _, _, hm, _, _, _, _ => by simp at hm
  | _ :: _, [], _, hm, _, _, _, _ => by simp at hm
end Go.Ab
