/- A region's abstract run as a list of effects, and its order. Under: nothing. -/
import Derived.Test.YthpnccneaaeomaaAb26
namespace Go.Ab

structure Dat where
  v : AV
  rd : List Nat
  sl : List Nat
  up : List (Nat × Option SObj)
  ins : Ins

def Dat.toRec (d : Dat) (r : RIns) : Rec := ⟨d.rd, d.sl, d.up.map (·.1), r.pre, insKey d.ins⟩

theorem StEq.symm {a b : St} (h : StEq a b) : StEq b a := ⟨fun n => (h.tm n).symm, fun n => (h.σ n).symm, h.nx.symm, h.nt.symm⟩

section
variable (G : Gl) (Ok : Nat → List PV → Own → PV → Prop)

def WhatD (r : RIns) (nm : Nat) (st : St) (d : Dat) : Prop := What G Ok r nm st d.v d.rd d.sl d.up d.ins
def afterD (st : St) (r : RIns) (d : Dat) : St := after st r d.v d.sl d.up d.ins

def RunR (ins : Nat → RIns) (nmf : Nat → Nat) (dat : Nat → Dat) : List Nat → St → St → Prop
  | [], st, st' => StEq st st'
  | i :: L, st, st' => WhatD G Ok (ins i) (nmf i) st (dat i) ∧ RunR ins nmf dat L (afterD st (ins i) (dat i)) st'

variable {G Ok}
variable {ins : Nat → RIns} {nmf : Nat → Nat} {dat : Nat → Dat}

theorem RunR.congr : ∀ (L : List Nat) {st st' sf : St}, RunR G Ok ins nmf dat L st sf → StEq st st' → RunR G Ok ins nmf dat L st' sf
  | [], _, _, _, h, e => e.symm.trans h
  | _ :: L, _, _, _, h, e => ⟨What.congr h.1 e, RunR.congr L h.2 (StEq.after e)⟩

theorem RunR.same_dat {dat' : Nat → Dat} : ∀ (L : List Nat) {st sf : St}, (∀ i ∈ L, dat' i = dat i) → RunR G Ok ins nmf dat L st sf → RunR G Ok ins nmf dat' L st sf
  | [], _, _, _, h => h
  | i :: L, _, _, hd, h => by
    have e := hd i (by simp)
    refine ⟨by rw [e]; exact h.1, ?_⟩
    rw [e]
    exact RunR.same_dat L (fun k hk => hd k (by simp [hk])) h.2

theorem RunR.front {j : Nat} {C : List Nat} (hj : smallT (ins j) = true) : ∀ (A : List Nat) {st sf : St},
    (∀ i ∈ A, smallT (ins i) = true ∧ apartT (ins i) (ins j) = true ∧ ((dat i).toRec (ins i)).clash ((dat j).toRec (ins j)) = false) →
    RunR G Ok ins nmf dat (A ++ j :: C) st sf → WhatD G Ok (ins j) (nmf j) st (dat j) ∧ RunR G Ok ins nmf dat (A ++ C) (afterD st (ins j) (dat j)) sf
  | [], _, _, _, h => h
  | i :: A, st, sf, hA, h => by
    obtain ⟨h1, h2⟩ := h
    obtain ⟨h3, h4⟩ := RunR.front hj A (fun k hk => hA k (by simp [hk])) h2
    obtain ⟨s1, s2, s3⟩ := hA i (by simp)
    obtain ⟨k1, k2, k3⟩ := What.swap h1 h3 s1 hj s2 s3
    exact ⟨k1, k2, RunR.congr _ h4 k3⟩

theorem compatOne_spec {r : Rec} : ∀ (l : List Rec) (i : Nat), compatOne r i l = true → ∀ k x, l[k]? = some x → x.clash r = true → r.pre.testBit (i + k) = true
  | [], _, _, k, x, h => by simp at h
  | y :: l, i, h, k, x, hx => by
    simp only [compatOne, Bool.and_eq_true, Bool.or_eq_true, Bool.not_eq_true'] at h
    cases k with
    | zero => simp at hx; subst hx; intro hc; rcases h.1 with h | h; · rw [h] at hc; cases hc
              · exact h
    | succ k =>
      simp at hx
      intro hc
      have := compatOne_spec l (i + 1) h.2 k x hx hc
      have e : i + 1 + k = i + (k + 1) := by omega
      rwa [e] at this

theorem compat_spec : ∀ (l done : List Rec), compat done l = true → ∀ i j x r, i < j → done.length ≤ j → (done ++ l)[i]? = some x → (done ++ l)[j]? = some r → x.clash r = true → r.pre.testBit i = true
  | [], done, _, i, j, x, r, hij, hd, hx, hr => by
    simp at hr; have := (List.getElem?_eq_some_iff.1 hr).1; omega
  | y :: l, done, h, i, j, x, r, hij, hd, hx, hr => by
    simp only [compat, Bool.and_eq_true] at h
    by_cases e : j = done.length
    · subst e
      simp at hr; subst hr
      intro hc
      rw [List.getElem?_append_left hij] at hx
      have := compatOne_spec done 0 h.1 i x hx hc
      simpa using this
    · have : done ++ y :: l = (done ++ [y]) ++ l := by simp
      rw [this] at hx hr
      exact compat_spec l _ h.2 i j x r hij (by simp; omega) hx hr

theorem opW_what {r : RIns} {nm : Nat} {st : St} {K : St → Rec → Prop} (hg : ∀ t want, r.guard = some (t, want) → st.ev G (.t t) = .pv (.bool want)) (h : opW G Ok r nm st K) :
    ∃ d, WhatD G Ok r nm st d ∧ K (afterD st r d) (d.toRec r) := by
  unfold opW at h
  split at h
  · rename_i f args ho
    split at h
    · rename_i g a b hc
      split at h
      · rename_i p hp
        obtain ⟨tm, σ, nx, nt⟩ := st
        split at h
        · rename_i v c es rows _ _ _ _ hr he
          cases he
          simp only [forceN_eq, upAllK_eq, putK_eq] at h
          exact ⟨⟨v, [c], [], [(c, some (.arr es rows false))], none⟩, .prim hg ho hc hp hr, h⟩
        · exact h.elim
      · rename_i hnp
        split at h
        · rename_i ps m hp
          obtain ⟨own, res, hok, h⟩ := h
          obtain ⟨tm, σ, nx, nt⟩ := st
          generalize himp : imp own nm res = vu at h
          obtain ⟨v, up⟩ := vu
          simp only [sealAllK_eq, upAllK_eq, putK_eq] at h
          exact ⟨⟨v, [], m, up, none⟩, .call hg ho hc hnp hp hok himp, h⟩
        · exact h.elim
    · exact h.elim
  · rename_i hn
    obtain ⟨tm, σ, nx, nt⟩ := st
    simp only at h
    split at h
    · rename_i e he
      rw [upAllK_eq, putK_eq] at h
      by_cases hi : ∃ m k x, r.op = .insert m k x
      · obtain ⟨m, k, x, ho⟩ := hi
        have he' := he
        rw [ho] at he'
        simp only [step] at he'
        split at he'
        · rename_i b s hm hk
          split at he'
          · rename_i ents hf
            split at he'
            · rename_i hl
              cases he'
              refine ⟨⟨.undef, [], [], [], some (b, s, St.ev G ⟨tm, σ, nx, nt⟩ x)⟩, .ins hg ho hm hk hf hl, ?_⟩
              have e1 : recOf (St.ev G ⟨tm, σ, nx, nt⟩) r.op { v := .undef, rd := [b], up := [(b, some (.map (insK s (St.ev G ⟨tm, σ, nx, nt⟩ x) ents)))] } r.pre = Dat.toRec ⟨.undef, [], [], [], some (b, s, St.ev G ⟨tm, σ, nx, nt⟩ x)⟩ r := by
                simp only [recOf, ho, hm, hk]; rfl
              rw [e1] at h
              have e2 : afterD ⟨tm, σ, nx, nt⟩ r ⟨.undef, [], [], [], some (b, s, St.ev G ⟨tm, σ, nx, nt⟩ x)⟩ = putW ⟨tm, σ, nx, nt⟩ r.dst .undef (upAll σ [(b, some (.map (insK s (St.ev G ⟨tm, σ, nx, nt⟩ x) ents)))]) := by
                simp only [afterD, after, sealAll, upAll, insU, hf]
              rw [e2]
              exact h
            · cases he'
          · cases he'
        · cases he'
      · have hni : ∀ m k x, r.op ≠ .insert m k x := fun m k x e => hi ⟨m, k, x, e⟩
        refine ⟨⟨e.v, e.rd, [], e.up, none⟩, .op hni hg he, ?_⟩
        have e1 : recOf (St.ev G ⟨tm, σ, nx, nt⟩) r.op e r.pre = Dat.toRec ⟨e.v, e.rd, [], e.up, none⟩ r := by
          unfold recOf
          split
          · rename_i m k x ho; exact absurd ho (hni m k x)
          · rfl
        rw [e1] at h
        exact h
    · exact h.elim

theorem insW_what {r : RIns} {nm : Nat} {st : St} {K : St → Rec → Prop} (h : insW G Ok r nm st K) : ∃ d, WhatD G Ok r nm st d ∧ K (afterD st r d) (d.toRec r) := by
  unfold insW at h
  split at h
  · rename_i hg
    exact opW_what (fun t want e => by rw [hg] at e; cases e) h
  · rename_i t want hg
    split at h
    · rename_i x hx
      have hdo : x = want → opW G Ok r nm st K → ∃ d, WhatD G Ok r nm st d ∧ K (afterD st r d) (d.toRec r) := fun e h =>
        opW_what (fun t' want' e' => by rw [hg] at e'; cases e'; rw [hx, e]) h
      have hno : x = !want → (match st with | ⟨tm, σ, nx, nt⟩ => putK ⟨tm, σ, nx, nt⟩ r.dst (.tup []) σ fun st' => K st' { rd := [], sl := [], wr := [], pre := r.pre }) →
          ∃ d, WhatD G Ok r nm st d ∧ K (afterD st r d) (d.toRec r) := by
        intro e h
        refine ⟨⟨.tup [], [], [], [], none⟩, .left hg (.inl (by rw [hx, e])), ?_⟩
        obtain ⟨tm, σ, nx, nt⟩ := st
        simp only [putK_eq] at h
        exact h
      cases x <;> cases want <;> simp only at h
      · exact hdo rfl h
      · exact hno rfl h
      · exact hno rfl h
      · exact hdo rfl h
    · rename_i hx
      refine ⟨⟨.tup [], [], [], [], none⟩, .left hg (.inr hx), ?_⟩
      obtain ⟨tm, σ, nx, nt⟩ := st
      simp only [putK_eq] at h
      exact h
    · exact h.elim

theorem opsW_run (full : List RIns) (nx0 : Nat) (draw : Bool) : ∀ (l : List RIns) (k : Nat) (recs : List Rec) (st : St) (K : St → Prop), full.drop k = l →
    opsW G Ok draw l (nx0 + stride * k) recs st K →
    ∃ (dat : Nat → Dat) (sf : St), RunR G Ok (fun i => full.getD i default) (fun i => nx0 + stride * i) dat (List.range' k l.length) st sf ∧ K sf ∧
      (draw = true → compat [] (recs ++ (List.range' k l.length).map fun i => (dat i).toRec (full.getD i default)) = true)
  | [], k, recs, st, K, _, h => by
    simp only [opsW] at h
    refine ⟨fun _ => ⟨.undef, [], [], [], none⟩, st, StEq.refl st, ?_⟩
    cases draw
    · exact ⟨h, fun e => by cases e⟩
    · simp only at h
      split at h
      · rename_i hc; exact ⟨h, fun _ => by simpa using hc⟩
      · exact h.elim
  | r :: l, k, recs, st, K, hfull, h => by
    simp only [opsW, forceN_eq] at h
    obtain ⟨d, hd, h⟩ := insW_what h
    have hk : full.getD k default = r := by
      have : (full.drop k)[0]? = some r := by rw [hfull]; rfl
      rw [List.getElem?_drop] at this
      simp only [Nat.add_zero] at this
      simp [List.getD, this]
    have hdrop : full.drop (k + 1) = l := by
      have := congrArg (List.drop 1) hfull
      rw [List.drop_drop] at this
      simpa using this
    have e : nx0 + stride * k + stride = nx0 + stride * (k + 1) := by rw [Nat.mul_succ]; omega
    rw [e] at h
    obtain ⟨dat, sf, h1, h2, h3⟩ := opsW_run full nx0 draw l (k + 1) _ _ K hdrop h
    have hne : ∀ i ∈ List.range' (k + 1) l.length, i ≠ k := fun i hi => by have := List.mem_range'_1.1 hi; omega
    refine ⟨fun i => if i = k then d else dat i, sf, ?_, h2, fun hdr => ?_⟩
    · show RunR G Ok _ _ _ (k :: List.range' (k + 1) l.length) st sf
      refine ⟨?_, ?_⟩
      · simp only [if_true, hk]; exact hd
      · simp only [if_true, hk]
        exact RunR.same_dat _ (fun i hi => by rw [if_neg (hne i hi)]) h1
    · have h3 := h3 hdr
      subst hdr
      simp only at h3
      show compat [] (recs ++ List.map _ (k :: List.range' (k + 1) l.length)) = true
      simp only [List.map_cons, if_true]
      rw [hk]
      have em : (List.range' (k + 1) l.length).map (fun i => ((if i = k then d else dat i).toRec (full.getD i default))) = (List.range' (k + 1) l.length).map fun i => (dat i).toRec (full.getD i default) :=
        List.map_congr_left fun i hi => by rw [if_neg (hne i hi)]
      rw [em]
      simpa using h3
end
end Go.Ab
