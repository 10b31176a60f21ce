/- A function's contract from its own code. Under: nothing. -/
import Derived.Test.YthpnccneaaeomaaAb34b
namespace Go.Ab
open Go.RowKit
theorem start_sim {P : Program} {G : Gl} {B : Nat} {w0 : World} {I0 : Imm} {w : World} {I : Imm} {ι : Nat → Option Nat} {σ : Store} {D : Nat → Prop} {gs : Value → AV → Prop} {D0 : Nat → Prop} {n0 : Nat} {keep : Nat → Obj → Prop} {vs : Array Value} {as : List AV} {nt nx : Nat} (hc : Core B w0 I0 w I ι σ D) (hn : ∀ b, D b → b < nx)
    (hg : GlobOk P G w I) (hl : vs.size = as.length) (ha : ∀ (j : Nat) (x : Value) (q : AV), vs[j]? = some x → as[j]? = some q → RepA w I ι σ D x q) (hgs : ∀ v av, gs v av → RepA w I ι σ D v av) (hb : ∀ b, D b → D0 b ∨ n0 ≤ b) (h0 : n0 ≤ nx) (hkp : ∀ r o, keep r o → still o = true ∧ w.heap[r]? = some o)
    (h1 : as.length ≤ nt) (h2 : as.length ≤ 1024) :
    SimT P G B w0 I0 ⟨gs, D0, n0, keep, none⟩ nt { tm := argsT 0 as .nil, σ := σ, nx := nx, nt := nt } { tmps := vs ++ Array.replicate (nt - vs.size) undef, defers := [] } w := by
  refine ⟨rfl, h0, I, ι, D, hc, hn, ⟨[], rfl, List.nodup_nil, fun r h => by cases h⟩, ?_, hg, fun t ht => ?_, hgs, hb, hkp, fun _ h => by cases h⟩
  · simp only [Array.size_append, Array.size_replicate]
    omega
  · show RepA w I _ _ _ _ ((argsT 0 as .nil).get tdepth t)
    rw [get_argsT as 0 .nil t ht (by omega)]
    by_cases h : 0 ≤ t ∧ t < 0 + as.length
    · rw [dif_pos h]
      have hv : t < vs.size := by omega
      refine ha t _ _ ?_ (List.getElem?_eq_getElem (by omega))
      simp [Array.getD, hv, Nat.lt_add_right]
    · rw [dif_neg h, get_nil]; exact .undef _

structure FnFacts (P : Program) (g : Nat) (c : RFn) (fn : Func) (code : Code) : Prop where
  func : P.funcs[g]? = some fn
  body : fn.body = some code
  name : ¬ fn.name = "runtime.NumGoroutine"
  nt : fn.ntmps = c.ntmps
  np : c.nparams ≤ c.ntmps
  np' : c.nparams ≤ 1024
  res : chkRes P fn.results.toList c.res = true
  code : chkC P c.ntmps code c.body = true

theorem chkFn_spec {P : Program} {g : Nat} {c : RFn} (hk : chkFn P g c = true) : ∃ fn code, FnFacts P g c fn code := by
  unfold chkFn at hk
  split at hk
  · rename_i fn hf
    split at hk
    · rename_i code hb
      simp only [Bool.and_eq_true, Bool.not_eq_true', beq_iff_eq, decide_eq_true_eq] at hk
      obtain ⟨⟨⟨⟨⟨hname, hnt⟩, hp1⟩, hp2⟩, hres⟩, hcode⟩ := hk
      exact ⟨fn, code, hf, hb, by simpa using hname, hnt, hp1, hp2, hres, hcode⟩
    · cases hk
  · cases hk

theorem FnFacts.enter {P : Program} {g : Nat} {c : RFn} {fn : Func} {code : Code} (h : FnFacts P g c fn code) (vs : Array Value) (w₁ : World) : (callFunc g vs).run P w₁ = .ok (.enter g vs) w₁ := by
  unfold callFunc
  simp [h.func, h.name, h.body]

def chkItr (P : Program) (g : Nat) (c : RFn) : Bool := chkFn P g c && (decide (c.ntmps ≤ 1023) && c.res.isEmpty)

/-- The functions of a table of which each is the model's may be run on their callers' stores; so may the iterators. -/
theorem envD_ok {P : Program} {G : Gl} (hm : P.follows .mixedOrders = true) {ext : Nat → Option RunI} (hext : InlOk P G fun g => (ext g).map extH) {tab tabI : Nat → Option RFn} (htab : ∀ g c, tab g = some c → chkFn P g c = true) (htabI : ∀ g c, tabI g = some c → chkItr P g c = true) :
    ∀ d, InlOk P G (envD G (OkC P G) ext tab tabI d).inl ∧ ItrOk P G (envD G (OkC P G) ext tab tabI d).itr
  | 0 => ⟨fun g h hg => by simp [envD] at hg, fun g h hg => by simp [envD] at hg⟩
  | d + 1 => by
    obtain ⟨ih1, ih2⟩ := envD_ok (G := G) hm hext htab htabI d
    refine ⟨fun g h hg => ?_, fun g h hg => ?_⟩
    · simp only [envD] at hg
      cases hx : ext g with
      | some r =>
        rw [hx] at hg
        exact hext g h (by simp only [hx, Option.map_some]; exact hg)
      | none =>
      rw [hx] at hg
      simp only at hg
      split at hg
      · rename_i c hc
        cases hg
        intro args σ nx K hrun B w0 I0 gs w I ι D vs hcore hD hglob hl ha hgs
        obtain ⟨fn, code, hf⟩ := chkFn_spec (htab g c hc)
        split at hrun
        · rename_i hlen
          rw [beq_iff_eq] at hlen
          rw [argsAK_eq] at hrun
          refine ⟨hf.enter vs, callsIn_of_wp_marks hf.func hf.body trivial ?_⟩
          rw [hf.nt]
          have hsim := start_sim (gs := gs) (D0 := D) (n0 := nx) (keep := fun r o => still o = true ∧ w.heap[r]? = some o) (nt := c.ntmps) hcore hD hglob hl ha hgs (fun b h => .inl h) (Nat.le_refl _) (fun r o h => h) (by have := hf.np; omega) (by have := hf.np'; omega)
          have hE : EnvOk P G (envD G (OkC P G) ext tab tabI d) none B w0 I0 ⟨gs, D, nx, fun r o => still o = true ∧ w.heap[r]? = some o, none⟩ := ⟨ih1, ih2, (fun _ h => by cases h), fun b h e => by cases d <;> simp [envD] at e⟩
          refine wpIn_mono (aw_sound (ro := none) hE hm (fun h => by cases h) c.body code hf.code _ _ _ _ hrun hsim) fun e a w' he => ?_
          have fin : ∀ s, (match s with | ⟨tm, σ, nx, nt⟩ => match resAs G ⟨tm, σ, nx, nt⟩ c.res with | some vs => forceA (resPV vs) fun v => K v σ nx | none => False) → SimT P G B w0 I0 ⟨gs, D, nx, fun r o => still o = true ∧ w.heap[r]? = some o, none⟩ c.ntmps s a w' →
              LeavesInM Fence.wide 0 P fn a.tmps (InlPost P G B w0 I0 gs D w nx K) a.defers .returning w' := by
            intro s hs ⟨_, hle, I₁, ι₁, D₁, hx⟩
            obtain ⟨tm, σ', nx', nt⟩ := s
            simp only at hs
            split at hs
            · rename_i vs' hvs
              rw [forceA_eq] at hs
              obtain ⟨rs, m1, m2, m3⟩ := hx.dfs
              refine leaves_of hf.res hvs rs a.defers w' m1 m2 m3 hx fun w₂ v hx hrep => ?_
              exact ⟨resPV vs', σ', nx', I₁, ι₁, D₁, hs, hx.core, hle, fun b hb => (hx.base b hb).elim .inl fun h => .inr ⟨h, hx.names b hb⟩, hrep, hx.glob, hx.ghost, fun r o h1 h2 => (hx.kept r o ⟨h1, h2⟩).2⟩
            · exact hs.elim
          cases e with
          | normal => obtain ⟨s, hq, hs⟩ := he; exact fin s hq hs
          | ret => obtain ⟨s, hq, hs⟩ := he; exact fin s hq hs
          | exit i => obtain ⟨s, hq, hs⟩ := he; exact hq.elim
          | goto l => exact he.elim
          | panic ch => exact he.elim
          | outgrown => exact he.elim
        · exact hrun.elim
      · cases hg
    · simp only [envD] at hg
      split at hg
      · rename_i c hc
        cases hg
        intro b hh args σ nx K hrun B w0 I0 gs p w I ι D vs hcore hD hglob hl ha hgs hpb hgy hBl hrec hY
        have hci := htabI g c hc
        simp only [chkItr, Bool.and_eq_true, decide_eq_true_eq, List.isEmpty_iff] at hci
        obtain ⟨hcf, hnt, hres⟩ := hci
        obtain ⟨fn, code, hf⟩ := chkFn_spec hcf
        split at hrun
        · rename_i hlen
          rw [beq_iff_eq] at hlen
          rw [argsAK_eq, setK_eq] at hrun
          refine ⟨hf.enter vs, callsIn_of_wp_marks hf.func hf.body trivial ?_⟩
          rw [hf.nt]
          obtain ⟨s1, s2, I₁, ι₁, D₁, s3⟩ := start_sim (gs := gs) (D0 := D) (n0 := nx) (keep := fun r o => still o = true ∧ w.heap[r]? = some o ∧ r ≠ p.l) (nt := c.ntmps) hcore hD hglob hl ha hgs (fun b h => .inl h) (Nat.le_refl _) (fun r o h => ⟨h.1, h.2.1⟩) (by have := hf.np; omega) (by have := hf.np'; omega)
          have hE : EnvOk P G ⟨(envD G (OkC P G) ext tab tabI d).inl, (envD G (OkC P G) ext tab tabI d).itr, some (b, hh)⟩ none B w0 I0 ⟨gs, D, nx, fun r o => still o = true ∧ w.heap[r]? = some o ∧ r ≠ p.l, some p⟩ :=
            ⟨ih1, ih2, (fun _ h => by cases h), fun b' h' e => by cases e; exact ⟨p, rfl, hpb, fun o hk => hk.2.2 rfl, hgy, hY⟩⟩
          refine wpIn_mono (aw_sound (ro := none) hE hm (fun h => by cases h) c.body code hf.code _ _ _ _ hrun ⟨s1, s2, I₁, ι₁, D₁, s3.enter_loop hnt hBl hrec⟩) fun e a w' he => ?_
          have fin : ∀ s, (match s with | ⟨tm, σ, nx, _⟩ => forceA (tm.get tdepth markT) fun v => K v σ nx) → SimT P G B w0 I0 ⟨gs, D, nx, fun r o => still o = true ∧ w.heap[r]? = some o ∧ r ≠ p.l, some p⟩ c.ntmps s a w' →
              LeavesInM Fence.wide 0 P fn a.tmps (ItrPost P G B w0 I0 p gs D w nx K) a.defers .returning w' := by
            intro s hs ⟨_, hle, I₁, ι₁, D₁, hx⟩
            obtain ⟨tm, σ', nx', nt⟩ := s
            simp only at hs
            rw [forceA_eq] at hs
            obtain ⟨rs, m1, m2, m3⟩ := hx.dfs
            refine leaves_of (vs := []) hf.res (by rw [hres]; rfl) rs a.defers w' m1 m2 m3 hx fun w₂ v hx hrep => ?_
            obtain ⟨_, _, k, hk1, hk2⟩ := hx.loop p rfl
            simp only at hk1
            rw [hk1] at hs
            exact ⟨k, σ', nx', I₁, ι₁, D₁, hs, hx.core, hle, fun b hb => (hx.base b hb).elim .inl fun h => .inr ⟨h, hx.names b hb⟩, hx.glob, hx.ghost, fun r o h0 h1 h2 => (hx.kept r o ⟨h1, h2, h0⟩).2, hk2⟩
          cases e with
          | normal => obtain ⟨s, hq, hs⟩ := he; exact fin s hq hs
          | ret => obtain ⟨s, hq, hs⟩ := he; exact fin s hq hs
          | exit i => obtain ⟨s, hq, hs⟩ := he; exact hq.elim
          | goto l => exact he.elim
          | panic ch => exact he.elim
          | outgrown => exact he.elim
        · exact hrun.elim
      · cases hg

/-- The rows of an own block that is handed out, and what they show. -/
def outRows (σ : Store) (b : Nat) : Option (Nat × List (List PV) × List Nat) :=
  match find σ b with
  | some (.arr es rows false) => some (es, rows, [])
  | some (.box es rowsA false) => (match pubR (pub σ 8) rowsA with
    | some (rows, m) => (match m.any (· == b) with | true => none | false => some (es, rows, m))
    | none => none)
  | _ => none

/-- The end of a function that hands out one slice of its own. -/
def retO (G : Gl) (rs : List RRes) (es : Nat) (rows : List (List PV)) (e : Ex) (st : St) : Prop :=
  match e with
  | .exit _ => False
  | _ => ∃ b m, resAs G st rs = some [.own b 0 rows.length] ∧ outRows st.σ b = some (es, rows, m)

/-- What is handed out, by the new name. -/
theorem out_rep {B : Nat} {w : World} {I : Imm} {ι : Nat → Option Nat} {σ : Store} {D : Nat → Prop} {b es : Nat} {rows : List (List PV)} {m : List Nat} {v : Value} (hs : SimS B w I ι σ D) (ho : outRows σ b = some (es, rows, m)) (hrep : RepA w I ι σ D v (.own b 0 rows.length)) (nm : Nat) :
    SimS B w (sealI I ι σ m) (fun x => if x = nm then ι b else none) [(nm, some (.arr es rows false))] (Names nm) ∧ RepA w (sealI I ι σ m) (fun x => if x = nm then ι b else none) [(nm, some (.arr es rows false))] (Names nm) v (.own nm 0 rows.length) := by
  obtain ⟨hs', hL'⟩ := hs.sealO m
  have main : ∃ o, find σ b = some o ∧ find (sealAll σ m) b = some o ∧ o.sealed = false ∧ o.isMap = false ∧ o.es = es ∧ o.len = rows.length ∧
      ∀ (i : Nat) (rowA : List AV) (row : List PV), o.row? i = some rowA → rows[i]? = some row → rowA.length = row.length ∧ ∀ (j : Nat) (x : Value) (a : AV) (p : PV), rowA[j]? = some a → row[j]? = some p → RepA w I ι σ D x a → RepP w (sealI I ι σ m) x p := by
    unfold outRows at ho
    split at ho
    · rename_i es' rows' hf
      cases ho
      refine ⟨_, hf, by simpa [sealAll] using hf, rfl, rfl, rfl, rfl, fun i rowA row h1 h2 => ?_⟩
      simp only [SObj.row?, h2] at h1
      cases h1
      refine ⟨by simp, fun j x a p ha hp hr => ?_⟩
      rw [List.getElem?_map, hp] at ha
      cases ha
      cases hr with | pv h => exact h.mono keeps_seal
    · rename_i es' rowsA hf
      split at ho
      · rename_i rows' m' hp
        split at ho
        · cases ho
        · rename_i hnm
          cases ho
          have hb : b ∉ m := by
            intro hb
            rw [List.any_eq_false] at hnm
            exact hnm b hb (by simp)
          obtain ⟨e1, e2⟩ := pubR_rep (pub_rep (M := m) hs 8) _ _ _ hp fun _ h => h
          refine ⟨_, hf, ?_, rfl, rfl, rfl, e1, fun i rowA row h1 h2 => ?_⟩
          · rw [find_sealAll, hf]; simp [hb]
          · exact (e2 i rowA row h1 h2).imp id fun h j x a p ha hp hr => h j a p x ha hp hr
      · cases ho
    · cases ho
  obtain ⟨o, hf, hf', hsl, hmap, hes, hlen, hcell⟩ := main
  have key : ∀ b' o', find [(nm, some (SObj.arr es rows false))] b' = some o' → b' = nm ∧ o' = .arr es rows false := by
    intro b' o' h
    simp only [find] at h
    split at h
    · rename_i hb; rw [beq_iff_eq] at hb; cases h; exact ⟨hb.symm, rfl⟩
    · cases h
  have hrows : RowsRep w I ι σ D b o := by
    have := hs.obj b o hf
    cases o with
    | map ents => simp [SObj.isMap] at hmap
    | arr e r sl => exact this
    | box e r sl => exact this
  refine ⟨⟨hs'.bnd, fun b' o' h => ?_, fun b₁ b₂ o₁ o₂ r h₁ h₂ _ _ => (key b₁ o₁ h₁).1.trans (key b₂ o₂ h₂).1.symm, fun b' o' r h e => ?_, fun b' o' r k h e hi => ?_, fun b' o' h => ?_⟩, ?_⟩
  · obtain ⟨rfl, _⟩ := key b' o' h; exact ⟨Nat.le_refl _, by simp [stride]⟩
  · obtain ⟨rfl, rfl⟩ := key b' o' h
    rw [if_pos rfl] at e
    exact hs.ge b o r hf e
  · obtain ⟨rfl, rfl⟩ := key b' o' h
    rw [if_pos rfl] at e
    have := (hs'.sep b o r k hf' e hi).1
    rw [hsl] at this; cases this
  · obtain ⟨rfl, rfl⟩ := key b' o' h
    rcases hrows with ⟨h1, h2⟩ | ⟨r, cc, T, fz, h1, h2, h3, h4, h5⟩
    · exact .inl ⟨by simp only [if_true]; exact h1, by simp only [SObj.len]; omega⟩
    · refine .inr ⟨r, cc, T, fz, by simp only [if_true]; exact h1, h2, h3, by simp only [SObj.len, SObj.es]; rw [← hes, ← hlen]; exact h4, fun i row hrow => ?_⟩
      simp only [SObj.row?] at hrow
      split at hrow
      · rename_i r0 hr0
        cases hrow
        have hi : i < o.len := by rw [hlen]; exact (List.getElem?_eq_some_iff.1 hr0).1
        obtain ⟨rowA, hrowA⟩ : ∃ rowA, o.row? i = some rowA := by
          cases o with
          | map ents => simp [SObj.isMap] at hmap
          | arr e r sl => simp only [SObj.len] at hi; exact ⟨r[i].map .pv, by simp only [SObj.row?, List.getElem?_eq_getElem hi]⟩
          | box e r sl => simp only [SObj.len] at hi; exact ⟨_, by simp only [SObj.row?]; exact List.getElem?_eq_getElem hi⟩
        obtain ⟨l1, l2⟩ := hcell i rowA r0 hrowA hr0
        obtain ⟨k1, k2⟩ := h5 i rowA hrowA
        refine ⟨by simp only [List.length_map, SObj.es]; rw [← l1, k1, hes], fun j v' hv' => ?_⟩
        rw [List.getElem?_map, Option.map_eq_some_iff] at hv'
        obtain ⟨p, hp, rfl⟩ := hv'
        have hj : j < rowA.length := by rw [l1]; exact (List.getElem?_eq_some_iff.1 hp).1
        obtain ⟨x, hx1, hx2, hx3⟩ := k2 j _ (List.getElem?_eq_getElem hj)
        exact ⟨x, by simp only [SObj.es]; rw [← hes]; exact hx1, hx2, .pv (l2 j x _ p (List.getElem?_eq_getElem hj) hp hx3)⟩
      · cases hrow
  · cases hrep with
    | own hD hone hv =>
      refine .own ⟨Nat.le_refl _, by simp [stride]⟩ hone fun o' ho' => ?_
      simp only [find, beq_self_eq_true] at ho'
      cases ho'
      obtain ⟨p, cap, k1, k2, k3, k4⟩ := hv _ hf
      refine ⟨p, cap, k1, by simp only [SObj.len]; omega, ⟨k3.1, by have := k3.2; simp only [SObj.len]; omega⟩, k4.imp id fun ⟨r, cc, T, fz, g1, g2, g3, g4⟩ => ⟨r, cc, T, fz, by simp only [if_true]; exact g1, by simp only [SObj.es]; rw [← hes]; exact g2, g3, by simp only [SObj.es]; rw [← hes]; exact g4⟩⟩

def fnO (G : Gl) (Ok : Nat → List PV → Own → PV → Prop) (ext : Nat → Option RunI) (tab tabI : Nat → Option RFn) (d : Nat) (f : RFn) (args : List PV) (es : Nat) (rows : List (List PV)) : Prop :=
  argsK 0 args .nil fun tm => aw G Ok f.body true (envD G Ok ext tab tabI d) (retO G f.res es rows) { tm := tm, σ := [], nx := 0, nt := f.ntmps }

/-- A function all of whose results are handed out pure. -/
theorem ok_of_fnW {P : Program} {G : Gl} {g : Nat} {c : RFn} {ps : List PV} {r : PV} (hm : P.follows .mixedOrders = true) (hk : chkFn P g c = true) {ext : Nat → Option RunI} (hext : InlOk P G fun g => (ext g).map extH) {tab tabI : Nat → Option RFn} (htab : ∀ g c, tab g = some c → chkFn P g c = true) (htabI : ∀ g c, tabI g = some c → chkItr P g c = true) {d : Nat}
    (hl : ps.length = c.nparams) (h : fnW G (OkC P G) ext tab tabI d c ps r) : OkC P G g ps [] r := by
  obtain ⟨fn, code, hf⟩ := chkFn_spec hk
  intro w I vs hbnd hglob hargs
  refine ⟨hf.enter vs, callsIn_of_wp_marks hf.func hf.body trivial ?_⟩
  simp only [fnW, argsK_eq] at h
  rw [hf.nt]
  have hcore : Core w.heap.size w I w I (fun _ => none) [] (fun _ => False) := ⟨⟨hbnd, fun b o h => by simp [find] at h, fun b b' o o' r h => by simp [find] at h, fun b o r h => by simp [find] at h, fun b o r k h => by simp [find] at h, fun b o h => by simp [find] at h⟩,
    Below.refl _ _, Nat.le_refl _, fun _ _ h => h, fun _ _ _ h => h⟩
  have hsim := start_sim (gs := fun _ _ => False) (D0 := fun _ => True) (n0 := 0) (keep := fun _ _ => False) (nx := 0) (as := ps.map .pv) (vs := vs) (nt := c.ntmps) hcore (fun b h => h.elim) hglob (by rw [List.length_map]; exact hargs.1)
    (fun j x q hx hq => by
      rw [List.getElem?_map, Option.map_eq_some_iff] at hq
      obtain ⟨p, hp, rfl⟩ := hq
      exact .pv (hargs.2 j x p hx hp)) (fun _ _ h => h.elim) (fun b h => h.elim) (Nat.le_refl _) (fun _ _ h => h.elim) (by rw [List.length_map]; have := hf.np; omega) (by rw [List.length_map]; have := hf.np'; omega)
  have hE : EnvOk P G (envD G (OkC P G) ext tab tabI d) none w.heap.size w I Gh.top := ⟨(envD_ok hm hext htab htabI d).1, (envD_ok hm hext htab htabI d).2, (fun _ h => by cases h), fun b h e => by cases d <;> simp [envD] at e⟩
  refine wpIn_mono (aw_sound (ro := none) hE hm (fun _ => rfl) c.body code hf.code _ _ _ _ h hsim) fun e a w' he => ?_
  have fin : ∀ s, (match resAs G s c.res with | some vs => (match pub s.σ 8 (resPV vs) with | some (p, _) => p = r | none => False) | none => False) → SimT P G w.heap.size w I .top c.ntmps s a w' →
      LeavesInM Fence.wide 0 P fn a.tmps (CallPost w I [] r) a.defers .returning w' := by
    intro s hs ⟨_, _, I₁, ι, D, hx⟩
    split at hs
    · rename_i vs' hvs
      split at hs
      · rename_i p m hp
        subst hs
        obtain ⟨rs, m1, m2, m3⟩ := hx.dfs
        refine leaves_of (gh := Gh.top) hf.res hvs rs a.defers w' m1 m2 m3 hx fun w₂ v hx hrep => ?_
        obtain ⟨hs', hL⟩ := SimS.sealO hx.core.sims m
        have hpv := pub_rep (M := m) hx.core.sims 8 _ _ _ _ hp (fun b h => h) hrep
        refine ⟨sealI I₁ ι s.σ m, hx.core.below, fun a k h => .inl (hx.core.ext a k h), fun a k hlt h => ?_, fun nm => ⟨fun _ => none, ?_, .pv hpv⟩⟩
        · rcases h with h | ⟨b, o, _, hf, _, hr, _⟩
          · exact hx.core.old a k hlt h
          · have := hx.core.sims.ge b o a hf hr; omega
        · exact ⟨hs'.bnd, fun b o h => by simp [imp, upAll, find] at h, fun b b' o o' r h => by simp [imp, upAll, find] at h, fun b o r h => by simp [imp, upAll, find] at h, fun b o r k h => by simp [imp, upAll, find] at h, fun b o h => by simp [imp, upAll, find] at h⟩
      · exact hs.elim
    · exact hs.elim
  cases e with
  | normal => obtain ⟨s, hq, hs⟩ := he; exact fin s hq hs
  | ret => obtain ⟨s, hq, hs⟩ := he; exact fin s hq hs
  | exit i => obtain ⟨s, hq, hs⟩ := he; exact hq.elim
  | goto l => exact he.elim
  | panic ch => exact he.elim
  | outgrown => exact he.elim
/-- A function that hands out one slice of its own. -/
theorem ok_of_fnO {P : Program} {G : Gl} {g : Nat} {c : RFn} {ps : List PV} {es : Nat} {rows : List (List PV)} (hm : P.follows .mixedOrders = true) (hk : chkFn P g c = true) {ext : Nat → Option RunI} (hext : InlOk P G fun g => (ext g).map extH) {tab tabI : Nat → Option RFn} (htab : ∀ g c, tab g = some c → chkFn P g c = true) (htabI : ∀ g c, tabI g = some c → chkItr P g c = true) {d : Nat}
    (hl : ps.length = c.nparams) (h : fnO G (OkC P G) ext tab tabI d c ps es rows) : OkC P G g ps [(0, 0)] (.sl es rows) := by
  obtain ⟨fn, code, hf'⟩ := chkFn_spec hk
  intro w I vs hbnd hglob hargs
  refine ⟨hf'.enter vs, callsIn_of_wp_marks hf'.func hf'.body trivial ?_⟩
  simp only [fnO, argsK_eq] at h
  rw [hf'.nt]
  have hcore : Core w.heap.size w I w I (fun _ => none) [] (fun _ => False) := ⟨⟨hbnd, fun b o h => by simp [find] at h, fun b b' o o' r h => by simp [find] at h, fun b o r h => by simp [find] at h, fun b o r k h => by simp [find] at h, fun b o h => by simp [find] at h⟩,
    Below.refl _ _, Nat.le_refl _, fun _ _ h => h, fun _ _ _ h => h⟩
  have hsim := start_sim (gs := fun _ _ => False) (D0 := fun _ => True) (n0 := 0) (keep := fun _ _ => False) (nx := 0) (as := ps.map .pv) (vs := vs) (nt := c.ntmps) hcore (fun b h => h.elim) hglob (by rw [List.length_map]; exact hargs.1)
    (fun j x q hx hq => by
      rw [List.getElem?_map, Option.map_eq_some_iff] at hq
      obtain ⟨p, hp, rfl⟩ := hq
      exact .pv (hargs.2 j x p hx hp)) (fun _ _ h => h.elim) (fun b h => h.elim) (Nat.le_refl _) (fun _ _ h => h.elim) (by rw [List.length_map]; have := hf'.np; omega) (by rw [List.length_map]; have := hf'.np'; omega)
  have hE : EnvOk P G (envD G (OkC P G) ext tab tabI d) none w.heap.size w I Gh.top := ⟨(envD_ok hm hext htab htabI d).1, (envD_ok hm hext htab htabI d).2, (fun _ h => by cases h), fun b h e => by cases d <;> simp [envD] at e⟩
  refine wpIn_mono (aw_sound (ro := none) hE hm (fun _ => rfl) c.body code hf'.code _ _ _ _ h hsim) fun e a w' he => ?_
  have fin : ∀ s, (∃ b m, resAs G s c.res = some [.own b 0 rows.length] ∧ outRows s.σ b = some (es, rows, m)) → SimT P G w.heap.size w I .top c.ntmps s a w' →
      LeavesInM Fence.wide 0 P fn a.tmps (CallPost w I [(0, 0)] (.sl es rows)) a.defers .returning w' := by
    intro s ⟨b, m, hvs, hout⟩ ⟨_, _, I₁, ι, D, hx⟩
    obtain ⟨rs, m1, m2, m3⟩ := hx.dfs
    refine leaves_of (gh := Gh.top) hf'.res hvs rs a.defers w' m1 m2 m3 hx fun w₂ v hx hrep => ?_
    refine ⟨sealI I₁ ι s.σ m, hx.core.below, fun a k h => .inl (hx.core.ext a k h), fun a k hlt h => ?_, fun nm => ⟨_, out_rep hx.core.sims hout hrep nm⟩⟩
    rcases h with h | ⟨b, o, _, hf, _, hr, _⟩
    · exact hx.core.old a k hlt h
    · have := hx.core.sims.ge b o a hf hr; omega
  cases e with
  | normal => obtain ⟨s, hq, hs⟩ := he; exact fin s hq hs
  | ret => obtain ⟨s, hq, hs⟩ := he; exact fin s hq hs
  | exit i => obtain ⟨s, hq, hs⟩ := he; exact hq.elim
  | goto l => exact he.elim
  | panic ch => exact he.elim
  | outgrown => exact he.elim
end Go.Ab
