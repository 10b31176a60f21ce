/- The abstract layer, part 5: values, steps, their soundness. Under: nothing. -/
import Derived.Test.YtngmifmcohmfmaaDoorAbG4
import Derived.ChangeSame
import Derived.IntWalk
import Derived.Carry
import Derived.OpenShut
import Derived.WalkKit
import Derived.ProofKit
import Derived.Lib.Index
/- A function's contract from its own code. Under: nothing. -/
namespace Go.Ab
open Go.RowKit
theorem start_sim {P : Program} {G : Gl} {B : Nat} {w0 : World} {I0 : Imm} {w : World} {I : Imm} {ι : Nat → Option Nat} {σ : Store} {D : Nat → Prop} {gs : Value → AV → Prop} {D0 : Nat → Prop} {n0 : Nat} {keep : Nat → Obj → Prop} {vs : Array Value} {as : List AV} {nt nx : Nat} (hc : Core B w0 I0 w I ι σ D) (hn : ∀ b, D b → b < nx)
    (hg : GlobOk P G w I) (hl : vs.size = as.length) (ha : ∀ (j : Nat) (x : Value) (q : AV), vs[j]? = some x → as[j]? = some q → RepA w I ι σ D x q) (hgs : ∀ v av, gs v av → RepA w I ι σ D v av) (hb : ∀ b, D b → D0 b ∨ n0 ≤ b) (h0 : n0 ≤ nx) (hkp : ∀ r o, keep r o → still o = true ∧ w.heap[r]? = some o)
    (h1 : as.length ≤ nt) (h2 : as.length ≤ 1024) :
    SimT P G B w0 I0 ⟨gs, D0, n0, keep, none⟩ nt { tm := argsT 0 as .nil, σ := σ, nx := nx, nt := nt } { tmps := vs ++ Array.replicate (nt - vs.size) undef, defers := [] } w := by
  refine ⟨rfl, h0, I, ι, D, hc, hn, ⟨[], rfl, List.nodup_nil, fun r h => by cases h⟩, ?_, hg, fun t ht => ?_, hgs, hb, hkp, fun _ h => by cases h⟩
  · simp only [Array.size_append, Array.size_replicate]
    omega
  · show RepA w I _ _ _ _ ((argsT 0 as .nil).get tdepth t)
    rw [get_argsT as 0 .nil t ht (by omega)]
    by_cases h : 0 ≤ t ∧ t < 0 + as.length
    · rw [dif_pos h]
      have hv : t < vs.size := by omega
      refine ha t _ _ ?_ (List.getElem?_eq_getElem (by omega))
      simp [Array.getD, hv, Nat.lt_add_right]
    · rw [dif_neg h, get_nil]; exact .undef _

structure FnFacts (P : Program) (g : Nat) (c : RFn) (fn : Func) (code : Code) : Prop where
  func : P.funcs[g]? = some fn
  body : fn.body = some code
  name : ¬ fn.name = "runtime.NumGoroutine"
  nt : fn.ntmps = c.ntmps
  np : c.nparams ≤ c.ntmps
  np' : c.nparams ≤ 1024
  res : chkRes P fn.results.toList c.res = true
  code : chkC P c.ntmps code c.body = true

theorem chkFn_spec {P : Program} {g : Nat} {c : RFn} (hk : chkFn P g c = true) : ∃ fn code, FnFacts P g c fn code := by
  unfold chkFn at hk
  split at hk
  · rename_i fn hf
    split at hk
    · rename_i code hb
      simp only [Bool.and_eq_true, Bool.not_eq_true', beq_iff_eq, decide_eq_true_eq] at hk
      obtain ⟨⟨⟨⟨⟨hname, hnt⟩, hp1⟩, hp2⟩, hres⟩, hcode⟩ := hk
      exact ⟨fn, code, hf, hb, by simpa using hname, hnt, hp1, hp2, hres, hcode⟩
    · cases hk
  · cases hk

theorem FnFacts.enter {P : Program} {g : Nat} {c : RFn} {fn : Func} {code : Code} (h : FnFacts P g c fn code) (vs : Array Value) (w₁ : World) : (callFunc g vs).run P w₁ = .ok (.enter g vs) w₁ := by
  unfold callFunc
  simp [h.func, h.name, h.body]

def chkItr (P : Program) (g : Nat) (c : RFn) : Bool := chkFn P g c && (decide (c.ntmps ≤ 1023) && c.res.isEmpty)

/-- The functions of a table of which each is the model's may be run on their callers' stores; so may the iterators. -/
theorem envD_ok {P : Program} {G : Gl} (hm : P.follows .mixedOrders = true) {ext : Nat → Option RunI} (hext : InlOk P G fun g => (ext g).map extH) {tab tabI : Nat → Option RFn} (htab : ∀ g c, tab g = some c → chkFn P g c = true) (htabI : ∀ g c, tabI g = some c → chkItr P g c = true) :
    ∀ d, InlOk P G (envD G (OkC P G) ext tab tabI d).inl ∧ ItrOk P G (envD G (OkC P G) ext tab tabI d).itr
  | 0 => ⟨fun g h hg => by simp [envD] at hg, fun g h hg => by simp [envD] at hg⟩
  | d + 1 => by
    obtain ⟨ih1, ih2⟩ := envD_ok (G := G) hm hext htab htabI d
    refine ⟨fun g h hg => ?_, fun g h hg => ?_⟩
    · simp only [envD] at hg
      cases hx : ext g with
      | some r =>
        rw [hx] at hg
        exact hext g h (by simp only [hx, Option.map_some]; exact hg)
      | none =>
      rw [hx] at hg
      simp only at hg
      split at hg
      · rename_i c hc
        cases hg
        intro args σ nx K hrun B w0 I0 gs w I ι D vs hcore hD hglob hl ha hgs
        obtain ⟨fn, code, hf⟩ := chkFn_spec (htab g c hc)
        split at hrun
        · rename_i hlen
          rw [beq_iff_eq] at hlen
          rw [argsAK_eq] at hrun
          refine ⟨hf.enter vs, callsIn_of_wp_marks hf.func hf.body trivial ?_⟩
          rw [hf.nt]
          have hsim := start_sim (gs := gs) (D0 := D) (n0 := nx) (keep := fun r o => still o = true ∧ w.heap[r]? = some o) (nt := c.ntmps) hcore hD hglob hl ha hgs (fun b h => .inl h) (Nat.le_refl _) (fun r o h => h) (by have := hf.np; omega) (by have := hf.np'; omega)
          have hE : EnvOk P G ⟨(envD G (OkC P G) ext tab tabI d).inl, (envD G (OkC P G) ext tab tabI d).itr, none, some nx⟩ none B w0 I0 ⟨gs, D, nx, fun r o => still o = true ∧ w.heap[r]? = some o, none⟩ := ⟨ih1, ih2, (fun _ h => by cases h), (fun b h e => by cases e), fun n h => by cases h; exact ⟨rfl, fun v av hg => (hgs v av hg).low hD⟩⟩
          refine wpIn_mono (aw_sound (ro := none) hE hm (fun h => by cases h) c.body code hf.code _ _ _ _ hrun hsim) fun e a w' he => ?_
          have fin : ∀ s, (match s with | ⟨tm, σ, nx, nt⟩ => match resAs G ⟨tm, σ, nx, nt⟩ c.res with | some vs => forceA (resPV vs) fun v => K v σ nx | none => False) → SimT P G B w0 I0 ⟨gs, D, nx, fun r o => still o = true ∧ w.heap[r]? = some o, none⟩ c.ntmps s a w' →
              LeavesInM Fence.wide 0 P fn a.tmps (InlPost P G B w0 I0 gs D w nx K) a.defers .returning w' := by
            intro s hs ⟨_, hle, I₁, ι₁, D₁, hx⟩
            obtain ⟨tm, σ', nx', nt⟩ := s
            simp only at hs
            split at hs
            · rename_i vs' hvs
              rw [forceA_eq] at hs
              obtain ⟨rs, m1, m2, m3⟩ := hx.dfs
              refine leaves_of hf.res hvs rs a.defers w' m1 m2 m3 hx fun w₂ v hx hrep => ?_
              exact ⟨resPV vs', σ', nx', I₁, ι₁, D₁, hs, hx.core, hle, fun b hb => (hx.base b hb).elim .inl fun h => .inr ⟨h, hx.names b hb⟩, hrep, hx.glob, hx.ghost, fun r o h1 h2 => (hx.kept r o ⟨h1, h2⟩).2⟩
            · exact hs.elim
          cases e with
          | normal => obtain ⟨s, hq, hs⟩ := he; exact fin s hq hs
          | ret => obtain ⟨s, hq, hs⟩ := he; exact fin s hq hs
          | exit i => obtain ⟨s, hq, hs⟩ := he; exact hq.elim
          | goto l => exact he.elim
          | panic ch => exact he.elim
          | outgrown => exact he.elim
        · exact hrun.elim
      · cases hg
    · simp only [envD] at hg
      split at hg
      · rename_i c hc
        cases hg
        intro b hh args σ nx K hrun B w0 I0 gs p w I ι D vs hcore hD hglob hl ha hgs hpb hgy hBl hrec hY
        have hci := htabI g c hc
        simp only [chkItr, Bool.and_eq_true, decide_eq_true_eq, List.isEmpty_iff] at hci
        obtain ⟨hcf, hnt, hres⟩ := hci
        obtain ⟨fn, code, hf⟩ := chkFn_spec hcf
        split at hrun
        · rename_i hlen
          rw [beq_iff_eq] at hlen
          rw [argsAK_eq, setK_eq] at hrun
          refine ⟨hf.enter vs, callsIn_of_wp_marks hf.func hf.body trivial ?_⟩
          rw [hf.nt]
          obtain ⟨s1, s2, I₁, ι₁, D₁, s3⟩ := start_sim (gs := gs) (D0 := D) (n0 := nx) (keep := fun r o => still o = true ∧ w.heap[r]? = some o ∧ r ≠ p.l) (nt := c.ntmps) hcore hD hglob hl ha hgs (fun b h => .inl h) (Nat.le_refl _) (fun r o h => ⟨h.1, h.2.1⟩) (by have := hf.np; omega) (by have := hf.np'; omega)
          have hE : EnvOk P G ⟨(envD G (OkC P G) ext tab tabI d).inl, (envD G (OkC P G) ext tab tabI d).itr, some (b, hh), some nx⟩ none B w0 I0 ⟨gs, D, nx, fun r o => still o = true ∧ w.heap[r]? = some o ∧ r ≠ p.l, some p⟩ :=
            ⟨ih1, ih2, (fun _ h => by cases h), (fun b' h' e => by cases e; exact ⟨p, rfl, hpb, fun o hk => hk.2.2 rfl, hgy, hY⟩), fun n h => by cases h; exact ⟨rfl, fun v av hg => (hgs v av hg).low hD⟩⟩
          refine wpIn_mono (aw_sound (ro := none) hE hm (fun h => by cases h) c.body code hf.code _ _ _ _ hrun ⟨s1, s2, I₁, ι₁, D₁, s3.enter_loop hnt hBl hrec⟩) fun e a w' he => ?_
          have fin : ∀ s, (match s with | ⟨tm, σ, nx, _⟩ => forceA (tm.get tdepth markT) fun v => K v σ nx) → SimT P G B w0 I0 ⟨gs, D, nx, fun r o => still o = true ∧ w.heap[r]? = some o ∧ r ≠ p.l, some p⟩ c.ntmps s a w' →
              LeavesInM Fence.wide 0 P fn a.tmps (ItrPost P G B w0 I0 p gs D w nx K) a.defers .returning w' := by
            intro s hs ⟨_, hle, I₁, ι₁, D₁, hx⟩
            obtain ⟨tm, σ', nx', nt⟩ := s
            simp only at hs
            rw [forceA_eq] at hs
            obtain ⟨rs, m1, m2, m3⟩ := hx.dfs
            refine leaves_of (vs := []) hf.res (by rw [hres]; rfl) rs a.defers w' m1 m2 m3 hx fun w₂ v hx hrep => ?_
            obtain ⟨_, _, k, hk1, hk2⟩ := hx.loop p rfl
            simp only at hk1
            rw [hk1] at hs
            exact ⟨k, σ', nx', I₁, ι₁, D₁, hs, hx.core, hle, fun b hb => (hx.base b hb).elim .inl fun h => .inr ⟨h, hx.names b hb⟩, hx.glob, hx.ghost, fun r o h0 h1 h2 => (hx.kept r o ⟨h1, h2, h0⟩).2, hk2⟩
          cases e with
          | normal => obtain ⟨s, hq, hs⟩ := he; exact fin s hq hs
          | ret => obtain ⟨s, hq, hs⟩ := he; exact fin s hq hs
          | exit i => obtain ⟨s, hq, hs⟩ := he; exact hq.elim
          | goto l => exact he.elim
          | panic ch => exact he.elim
          | outgrown => exact he.elim
        · exact hrun.elim
      · cases hg

/-- The rows of an own block that is handed out, and what they show. -/
def outRows (σ : Store) (b : Nat) : Option (Nat × List (List PV) × List Nat) :=
  match find σ b with
  | some (.arr es rows false) => some (es, rows, [])
  | some (.box es rowsA false) => (match pubR (pub σ 8) rowsA with
    | some (rows, m) => (match m.any (· == b) with | true => none | false => some (es, rows, m))
    | none => none)
  | _ => none

/-- The end of a function that hands out one slice of its own. -/
def retO (G : Gl) (rs : List RRes) (es : Nat) (rows : List (List PV)) (e : Ex) (st : St) : Prop :=
  match e with
  | .exit _ => False
  | _ => ∃ b m, resAs G st rs = some [.own b 0 rows.length] ∧ outRows st.σ b = some (es, rows, m)

/-- What is handed out, by the new name. -/
theorem out_rep {B : Nat} {w : World} {I : Imm} {ι : Nat → Option Nat} {σ : Store} {D : Nat → Prop} {b es : Nat} {rows : List (List PV)} {m : List Nat} {v : Value} (hs : SimS B w I ι σ D) (ho : outRows σ b = some (es, rows, m)) (hrep : RepA w I ι σ D v (.own b 0 rows.length)) (nm : Nat) :
    SimS B w (sealI I ι σ m) (fun x => if x = nm then ι b else none) [(nm, some (.arr es rows false))] (Names nm) ∧ RepA w (sealI I ι σ m) (fun x => if x = nm then ι b else none) [(nm, some (.arr es rows false))] (Names nm) v (.own nm 0 rows.length) := by
  obtain ⟨hs', hL'⟩ := hs.sealO m
  have main : ∃ o, find σ b = some o ∧ find (sealAll σ m) b = some o ∧ o.sealed = false ∧ o.isMap = false ∧ o.es = es ∧ o.len = rows.length ∧
      ∀ (i : Nat) (rowA : List AV) (row : List PV), o.row? i = some rowA → rows[i]? = some row → rowA.length = row.length ∧ ∀ (j : Nat) (x : Value) (a : AV) (p : PV), rowA[j]? = some a → row[j]? = some p → RepA w I ι σ D x a → RepP w (sealI I ι σ m) x p := by
    unfold outRows at ho
    split at ho
    · rename_i es' rows' hf
      cases ho
      refine ⟨_, hf, by simpa [sealAll] using hf, rfl, rfl, rfl, rfl, fun i rowA row h1 h2 => ?_⟩
      simp only [SObj.row?, h2] at h1
      cases h1
      refine ⟨by simp, fun j x a p ha hp hr => ?_⟩
      rw [List.getElem?_map, hp] at ha
      cases ha
      cases hr with | pv h => exact h.mono keeps_seal
    · rename_i es' rowsA hf
      split at ho
      · rename_i rows' m' hp
        split at ho
        · cases ho
        · rename_i hnm
          cases ho
          have hb : b ∉ m := by
            intro hb
            rw [List.any_eq_false] at hnm
            exact hnm b hb (by simp)
          obtain ⟨e1, e2⟩ := pubR_rep (pub_rep (M := m) hs 8) _ _ _ hp fun _ h => h
          refine ⟨_, hf, ?_, rfl, rfl, rfl, e1, fun i rowA row h1 h2 => ?_⟩
          · rw [find_sealAll, hf]; simp [hb]
          · exact (e2 i rowA row h1 h2).imp id fun h j x a p ha hp hr => h j a p x ha hp hr
      · cases ho
    · cases ho
  obtain ⟨o, hf, hf', hsl, hmap, hes, hlen, hcell⟩ := main
  have key : ∀ b' o', find [(nm, some (SObj.arr es rows false))] b' = some o' → b' = nm ∧ o' = .arr es rows false := by
    intro b' o' h
    simp only [find] at h
    split at h
    · rename_i hb; rw [beq_iff_eq] at hb; cases h; exact ⟨hb.symm, rfl⟩
    · cases h
  have hrows : RowsRep w I ι σ D b o := by
    have := hs.obj b o hf
    cases o with
    | map ents => simp [SObj.isMap] at hmap
    | arr e r sl => exact this
    | box e r sl => exact this
  refine ⟨⟨hs'.bnd, fun b' o' h => ?_, fun b₁ b₂ o₁ o₂ r h₁ h₂ _ _ => (key b₁ o₁ h₁).1.trans (key b₂ o₂ h₂).1.symm, fun b' o' r h e => ?_, fun b' o' r k h e hi => ?_, fun b' o' h => ?_⟩, ?_⟩
  · obtain ⟨rfl, _⟩ := key b' o' h; exact ⟨Nat.le_refl _, by simp [stride]⟩
  · obtain ⟨rfl, rfl⟩ := key b' o' h
    rw [if_pos rfl] at e
    exact hs.ge b o r hf e
  · obtain ⟨rfl, rfl⟩ := key b' o' h
    rw [if_pos rfl] at e
    have := (hs'.sep b o r k hf' e hi).1
    rw [hsl] at this; cases this
  · obtain ⟨rfl, rfl⟩ := key b' o' h
    rcases hrows with ⟨h1, h2⟩ | ⟨r, cc, T, fz, h1, h2, h3, h4, h5⟩
    · exact .inl ⟨by simp only [if_true]; exact h1, by simp only [SObj.len]; omega⟩
    · refine .inr ⟨r, cc, T, fz, by simp only [if_true]; exact h1, h2, h3, by simp only [SObj.len, SObj.es]; rw [← hes, ← hlen]; exact h4, fun i row hrow => ?_⟩
      simp only [SObj.row?] at hrow
      split at hrow
      · rename_i r0 hr0
        cases hrow
        have hi : i < o.len := by rw [hlen]; exact (List.getElem?_eq_some_iff.1 hr0).1
        obtain ⟨rowA, hrowA⟩ : ∃ rowA, o.row? i = some rowA := by
          cases o with
          | map ents => simp [SObj.isMap] at hmap
          | arr e r sl => simp only [SObj.len] at hi; exact ⟨r[i].map .pv, by simp only [SObj.row?, List.getElem?_eq_getElem hi]⟩
          | box e r sl => simp only [SObj.len] at hi; exact ⟨_, by simp only [SObj.row?]; exact List.getElem?_eq_getElem hi⟩
        obtain ⟨l1, l2⟩ := hcell i rowA r0 hrowA hr0
        obtain ⟨k1, k2⟩ := h5 i rowA hrowA
        refine ⟨by simp only [List.length_map, SObj.es]; rw [← l1, k1, hes], fun j v' hv' => ?_⟩
        rw [List.getElem?_map, Option.map_eq_some_iff] at hv'
        obtain ⟨p, hp, rfl⟩ := hv'
        have hj : j < rowA.length := by rw [l1]; exact (List.getElem?_eq_some_iff.1 hp).1
        obtain ⟨x, hx1, hx2, hx3⟩ := k2 j _ (List.getElem?_eq_getElem hj)
        exact ⟨x, by simp only [SObj.es]; rw [← hes]; exact hx1, hx2, .pv (l2 j x _ p (List.getElem?_eq_getElem hj) hp hx3)⟩
      · cases hrow
  · cases hrep with
    | own hD hone hv =>
      refine .own ⟨Nat.le_refl _, by simp [stride]⟩ hone fun o' ho' => ?_
      simp only [find, beq_self_eq_true] at ho'
      cases ho'
      obtain ⟨p, cap, k1, k2, k3, k4⟩ := hv _ hf
      refine ⟨p, cap, k1, by simp only [SObj.len]; omega, ⟨k3.1, by have := k3.2; simp only [SObj.len]; omega⟩, k4.imp id fun ⟨r, cc, T, fz, g1, g2, g3, g4⟩ => ⟨r, cc, T, fz, by simp only [if_true]; exact g1, by simp only [SObj.es]; rw [← hes]; exact g2, g3, by simp only [SObj.es]; rw [← hes]; exact g4⟩⟩

def fnO (G : Gl) (Ok : Nat → List PV → Own → PV → Prop) (ext : Nat → Option RunI) (tab tabI : Nat → Option RFn) (d : Nat) (f : RFn) (args : List PV) (es : Nat) (rows : List (List PV)) : Prop :=
  argsK 0 args .nil fun tm => aw G Ok f.body true (envD G Ok ext tab tabI d) (retO G f.res es rows) { tm := tm, σ := [], nx := 0, nt := f.ntmps }

/-- A function all of whose results are handed out pure. -/
theorem ok_of_fnW {P : Program} {G : Gl} {g : Nat} {c : RFn} {ps : List PV} {r : PV} (hm : P.follows .mixedOrders = true) (hk : chkFn P g c = true) {ext : Nat → Option RunI} (hext : InlOk P G fun g => (ext g).map extH) {tab tabI : Nat → Option RFn} (htab : ∀ g c, tab g = some c → chkFn P g c = true) (htabI : ∀ g c, tabI g = some c → chkItr P g c = true) {d : Nat}
    (hl : ps.length = c.nparams) (h : fnW G (OkC P G) ext tab tabI d c ps r) : OkC P G g ps [] r := by
  obtain ⟨fn, code, hf⟩ := chkFn_spec hk
  intro w I vs hbnd hglob hargs
  refine ⟨hf.enter vs, callsIn_of_wp_marks hf.func hf.body trivial ?_⟩
  simp only [fnW, argsK_eq] at h
  rw [hf.nt]
  have hcore : Core w.heap.size w I w I (fun _ => none) [] (fun _ => False) := ⟨⟨hbnd, fun b o h => by simp [find] at h, fun b b' o o' r h => by simp [find] at h, fun b o r h => by simp [find] at h, fun b o r k h => by simp [find] at h, fun b o h => by simp [find] at h⟩,
    Below.refl _ _, Nat.le_refl _, fun _ _ h => h, fun _ _ _ h => h⟩
  have hsim := start_sim (gs := fun _ _ => False) (D0 := fun _ => True) (n0 := 0) (keep := fun _ _ => False) (nx := 0) (as := ps.map .pv) (vs := vs) (nt := c.ntmps) hcore (fun b h => h.elim) hglob (by rw [List.length_map]; exact hargs.1)
    (fun j x q hx hq => by
      rw [List.getElem?_map, Option.map_eq_some_iff] at hq
      obtain ⟨p, hp, rfl⟩ := hq
      exact .pv (hargs.2 j x p hx hp)) (fun _ _ h => h.elim) (fun b h => h.elim) (Nat.le_refl _) (fun _ _ h => h.elim) (by rw [List.length_map]; have := hf.np; omega) (by rw [List.length_map]; have := hf.np'; omega)
  have hE : EnvOk P G (envD G (OkC P G) ext tab tabI d) none w.heap.size w I Gh.top := ⟨(envD_ok hm hext htab htabI d).1, (envD_ok hm hext htab htabI d).2, (fun _ h => by cases h), (fun b h e => by cases d <;> simp [envD] at e), fun n h => by cases d <;> simp [envD] at h⟩
  refine wpIn_mono (aw_sound (ro := none) hE hm (fun _ => rfl) c.body code hf.code _ _ _ _ h hsim) fun e a w' he => ?_
  have fin : ∀ s, (match resAs G s c.res with | some vs => (match pub s.σ 8 (resPV vs) with | some (p, _) => p = r | none => False) | none => False) → SimT P G w.heap.size w I .top c.ntmps s a w' →
      LeavesInM Fence.wide 0 P fn a.tmps (CallPost w I [] r) a.defers .returning w' := by
    intro s hs ⟨_, _, I₁, ι, D, hx⟩
    split at hs
    · rename_i vs' hvs
      split at hs
      · rename_i p m hp
        subst hs
        obtain ⟨rs, m1, m2, m3⟩ := hx.dfs
        refine leaves_of (gh := Gh.top) hf.res hvs rs a.defers w' m1 m2 m3 hx fun w₂ v hx hrep => ?_
        obtain ⟨hs', hL⟩ := SimS.sealO hx.core.sims m
        have hpv := pub_rep (M := m) hx.core.sims 8 _ _ _ _ hp (fun b h => h) hrep
        refine ⟨sealI I₁ ι s.σ m, hx.core.below, fun a k h => .inl (hx.core.ext a k h), fun a k hlt h => ?_, fun nm => ⟨fun _ => none, ?_, .pv hpv⟩⟩
        · rcases h with h | ⟨b, o, _, hf, _, hr, _⟩
          · exact hx.core.old a k hlt h
          · have := hx.core.sims.ge b o a hf hr; omega
        · exact ⟨hs'.bnd, fun b o h => by simp [imp, upAll, find] at h, fun b b' o o' r h => by simp [imp, upAll, find] at h, fun b o r h => by simp [imp, upAll, find] at h, fun b o r k h => by simp [imp, upAll, find] at h, fun b o h => by simp [imp, upAll, find] at h⟩
      · exact hs.elim
    · exact hs.elim
  cases e with
  | normal => obtain ⟨s, hq, hs⟩ := he; exact fin s hq hs
  | ret => obtain ⟨s, hq, hs⟩ := he; exact fin s hq hs
  | exit i => obtain ⟨s, hq, hs⟩ := he; exact hq.elim
  | goto l => exact he.elim
  | panic ch => exact he.elim
  | outgrown => exact he.elim
/-- A function that hands out one slice of its own. -/
theorem ok_of_fnO {P : Program} {G : Gl} {g : Nat} {c : RFn} {ps : List PV} {es : Nat} {rows : List (List PV)} (hm : P.follows .mixedOrders = true) (hk : chkFn P g c = true) {ext : Nat → Option RunI} (hext : InlOk P G fun g => (ext g).map extH) {tab tabI : Nat → Option RFn} (htab : ∀ g c, tab g = some c → chkFn P g c = true) (htabI : ∀ g c, tabI g = some c → chkItr P g c = true) {d : Nat}
    (hl : ps.length = c.nparams) (h : fnO G (OkC P G) ext tab tabI d c ps es rows) : OkC P G g ps [(0, 0)] (.sl es rows) := by
  obtain ⟨fn, code, hf'⟩ := chkFn_spec hk
  intro w I vs hbnd hglob hargs
  refine ⟨hf'.enter vs, callsIn_of_wp_marks hf'.func hf'.body trivial ?_⟩
  simp only [fnO, argsK_eq] at h
  rw [hf'.nt]
  have hcore : Core w.heap.size w I w I (fun _ => none) [] (fun _ => False) := ⟨⟨hbnd, fun b o h => by simp [find] at h, fun b b' o o' r h => by simp [find] at h, fun b o r h => by simp [find] at h, fun b o r k h => by simp [find] at h, fun b o h => by simp [find] at h⟩,
    Below.refl _ _, Nat.le_refl _, fun _ _ h => h, fun _ _ _ h => h⟩
  have hsim := start_sim (gs := fun _ _ => False) (D0 := fun _ => True) (n0 := 0) (keep := fun _ _ => False) (nx := 0) (as := ps.map .pv) (vs := vs) (nt := c.ntmps) hcore (fun b h => h.elim) hglob (by rw [List.length_map]; exact hargs.1)
    (fun j x q hx hq => by
      rw [List.getElem?_map, Option.map_eq_some_iff] at hq
      obtain ⟨p, hp, rfl⟩ := hq
      exact .pv (hargs.2 j x p hx hp)) (fun _ _ h => h.elim) (fun b h => h.elim) (Nat.le_refl _) (fun _ _ h => h.elim) (by rw [List.length_map]; have := hf'.np; omega) (by rw [List.length_map]; have := hf'.np'; omega)
  have hE : EnvOk P G (envD G (OkC P G) ext tab tabI d) none w.heap.size w I Gh.top := ⟨(envD_ok hm hext htab htabI d).1, (envD_ok hm hext htab htabI d).2, (fun _ h => by cases h), (fun b h e => by cases d <;> simp [envD] at e), fun n h => by cases d <;> simp [envD] at h⟩
  refine wpIn_mono (aw_sound (ro := none) hE hm (fun _ => rfl) c.body code hf'.code _ _ _ _ h hsim) fun e a w' he => ?_
  have fin : ∀ s, (∃ b m, resAs G s c.res = some [.own b 0 rows.length] ∧ outRows s.σ b = some (es, rows, m)) → SimT P G w.heap.size w I .top c.ntmps s a w' →
      LeavesInM Fence.wide 0 P fn a.tmps (CallPost w I [(0, 0)] (.sl es rows)) a.defers .returning w' := by
    intro s ⟨b, m, hvs, hout⟩ ⟨_, _, I₁, ι, D, hx⟩
    obtain ⟨rs, m1, m2, m3⟩ := hx.dfs
    refine leaves_of (gh := Gh.top) hf'.res hvs rs a.defers w' m1 m2 m3 hx fun w₂ v hx hrep => ?_
    refine ⟨sealI I₁ ι s.σ m, hx.core.below, fun a k h => .inl (hx.core.ext a k h), fun a k hlt h => ?_, fun nm => ⟨_, out_rep hx.core.sims hout hrep nm⟩⟩
    rcases h with h | ⟨b, o, _, hf, _, hr, _⟩
    · exact hx.core.old a k hlt h
    · have := hx.core.sims.ge b o a hf hr; omega
  cases e with
  | normal => obtain ⟨s, hq, hs⟩ := he; exact fin s hq hs
  | ret => obtain ⟨s, hq, hs⟩ := he; exact fin s hq hs
  | exit i => obtain ⟨s, hq, hs⟩ := he; exact hq.elim
  | goto l => exact he.elim
  | panic ch => exact he.elim
  | outgrown => exact he.elim

/-- The end of a function that hands out one slice of its own, and a number. -/
def retO2 (G : Gl) (rs : List RRes) (es : Nat) (rows : List (List PV)) (kd : IntKind) (nn : Int) (e : Ex) (st : St) : Prop :=
  match e with
  | .exit _ => False
  | _ => ∃ b m, resAs G st rs = some [.own b 0 rows.length, .pv (.int kd nn)] ∧ outRows st.σ b = some (es, rows, m)

def fnO2 (G : Gl) (Ok : Nat → List PV → Own → PV → Prop) (ext : Nat → Option RunI) (tab tabI : Nat → Option RFn) (d : Nat) (f : RFn) (args : List PV) (es : Nat) (rows : List (List PV)) (kd : IntKind) (nn : Int) : Prop :=
  argsK 0 args .nil fun tm => aw G Ok f.body true (envD G Ok ext tab tabI d) (retO2 G f.res es rows kd nn) { tm := tm, σ := [], nx := 0, nt := f.ntmps }

/-- A function that hands out one slice of its own, and a number with it. -/
theorem ok_of_fnO2 {P : Program} {G : Gl} {g : Nat} {c : RFn} {ps : List PV} {es : Nat} {rows : List (List PV)} {kd : IntKind} {nn : Int} (hm : P.follows .mixedOrders = true) (hk : chkFn P g c = true) {ext : Nat → Option RunI} (hext : InlOk P G fun g => (ext g).map extH) {tab tabI : Nat → Option RFn} (htab : ∀ g c, tab g = some c → chkFn P g c = true) (htabI : ∀ g c, tabI g = some c → chkItr P g c = true) {d : Nat}
    (hl : ps.length = c.nparams) (h : fnO2 G (OkC P G) ext tab tabI d c ps es rows kd nn) : OkC P G g ps [(0, 0)] (.tup [.sl es rows, .int kd nn]) := by
  obtain ⟨fn, code, hf'⟩ := chkFn_spec hk
  intro w I vs hbnd hglob hargs
  refine ⟨hf'.enter vs, callsIn_of_wp_marks hf'.func hf'.body trivial ?_⟩
  simp only [fnO2, argsK_eq] at h
  rw [hf'.nt]
  have hcore : Core w.heap.size w I w I (fun _ => none) [] (fun _ => False) := ⟨⟨hbnd, fun b o h => by simp [find] at h, fun b b' o o' r h => by simp [find] at h, fun b o r h => by simp [find] at h, fun b o r k h => by simp [find] at h, fun b o h => by simp [find] at h⟩,
    Below.refl _ _, Nat.le_refl _, fun _ _ h => h, fun _ _ _ h => h⟩
  have hsim := start_sim (gs := fun _ _ => False) (D0 := fun _ => True) (n0 := 0) (keep := fun _ _ => False) (nx := 0) (as := ps.map .pv) (vs := vs) (nt := c.ntmps) hcore (fun b h => h.elim) hglob (by rw [List.length_map]; exact hargs.1)
    (fun j x q hx hq => by
      rw [List.getElem?_map, Option.map_eq_some_iff] at hq
      obtain ⟨p, hp, rfl⟩ := hq
      exact .pv (hargs.2 j x p hx hp)) (fun _ _ h => h.elim) (fun b h => h.elim) (Nat.le_refl _) (fun _ _ h => h.elim) (by rw [List.length_map]; have := hf'.np; omega) (by rw [List.length_map]; have := hf'.np'; omega)
  have hE : EnvOk P G (envD G (OkC P G) ext tab tabI d) none w.heap.size w I Gh.top := ⟨(envD_ok hm hext htab htabI d).1, (envD_ok hm hext htab htabI d).2, (fun _ h => by cases h), (fun b h e => by cases d <;> simp [envD] at e), fun n h => by cases d <;> simp [envD] at h⟩
  refine wpIn_mono (aw_sound (ro := none) hE hm (fun _ => rfl) c.body code hf'.code _ _ _ _ h hsim) fun e a w' he => ?_
  have fin : ∀ s, (∃ b m, resAs G s c.res = some [.own b 0 rows.length, .pv (.int kd nn)] ∧ outRows s.σ b = some (es, rows, m)) → SimT P G w.heap.size w I .top c.ntmps s a w' →
      LeavesInM Fence.wide 0 P fn a.tmps (CallPost w I [(0, 0)] (.tup [.sl es rows, .int kd nn])) a.defers .returning w' := by
    intro s ⟨b, m, hvs, hout⟩ ⟨_, _, I₁, ι, D, hx⟩
    obtain ⟨rs, m1, m2, m3⟩ := hx.dfs
    refine leaves_of (gh := Gh.top) hf'.res hvs rs a.defers w' m1 m2 m3 hx fun w₂ v hx hrep => ?_
    refine ⟨sealI I₁ ι s.σ m, hx.core.below, fun a k h => .inl (hx.core.ext a k h), fun a k hlt h => ?_, fun nm => ?_⟩
    · rcases h with h | ⟨b, o, _, hf, _, hr, _⟩
      · exact hx.core.old a k hlt h
      · have := hx.core.sims.ge b o a hf hr; omega
    · cases hrep with
      | tup hl hh =>
        rename_i cs
        have h0 : ∃ x, cs[0]? = some x := ⟨_, Array.getElem?_eq_getElem (by simp at hl; omega)⟩
        obtain ⟨x0, hx0⟩ := h0
        obtain ⟨o1, o2⟩ := out_rep hx.core.sims hout (hh 0 x0 _ hx0 rfl) nm
        refine ⟨_, o1, .tup (by simpa using hl) fun j x q hxj hq => ?_⟩
        match j, hq with
        | 0, hq => cases hq; rw [hx0] at hxj; cases hxj; exact o2
        | 1, hq => cases hq; have := inv_int (hh 1 x _ hxj rfl); subst this; exact .pv (.int _ _)
  cases e with
  | normal => obtain ⟨s, hq, hs⟩ := he; exact fin s hq hs
  | ret => obtain ⟨s, hq, hs⟩ := he; exact fin s hq hs
  | exit i => obtain ⟨s, hq, hs⟩ := he; exact hq.elim
  | goto l => exact he.elim
  | panic ch => exact he.elim
  | outgrown => exact he.elim
end Go.Ab

/- A row's end from 'Below'. Under: nothing. -/
namespace Go.Ab
open Go.RowKit Go.ChangeShapes Go.WideShapes

theorem post_of_below {H : Type} {enc : TypeId × Value → H} {P : Program} {f : Func} {s : ChangeSpec} {apart fresh handsOn again : Bool} {W W' : World} {args : Array Value} {v : Value} {ds gs : List (DataW H)} {before pa pv : List MemPlace}
    (hW : DataW.Whole enc P f.params.toList s.vars apart W args.toList ds gs before)
    (hres : ∀ (b : Nat) (sp : Nat → Bool) (hd : Bool), DataW.TrodAll enc P W' b sp hd f.resultTypes.toList (v.resultList f.resultTypes.size) (s.fn H (ds ++ gs)).results [])
    (hargs : ∀ sp : Nat → Bool, (∀ p ∈ before, sp p.block = true) → DataW.TrodAll enc P W' 0 sp true f.params.toList args.toList (s.fn H (ds ++ gs)).args pa)
    (hvars : ∀ sp : Nat → Bool, (∀ p ∈ before, sp p.block = true) → DataW.TrodVars enc P W' sp s.vars (s.fn H (ds ++ gs)).vars pv)
    (hps : before = pa ++ pv) (hb : Below W.heap.size W W')
    (hok : ∀ (j : Nat) (t : TypeId) (r : Value), f.resultTypes[j]? = some t → (v.resultList f.resultTypes.size)[j]? = some r → Value.okWide P W' .any 0 t r) :
    s.post enc P f apart fresh handsOn again W args v W' := by
  have hold : ∀ p ∈ before, (fun b => decide (b < W.heap.size)) p.block = true := fun p hp => by simpa using hW.lt p hp
  have hlt := hW.lt
  refine ⟨ds, gs, before, [], pa, pv, hW, hres _ _ _, hargs _ hold, hvars _ hold, World.keptBut_mono (fun p hp => ⟨hp, ?_⟩) (hb.frame (· ∈ before)), fun _ => ?_⟩
  · rw [hps, List.mem_append] at hp
    exact Or.inr hp
  · obtain ⟨_, _, _, _, _, hz, hn⟩ := hW
    refine ⟨hok, _, _, ([] ++ pa) ++ pv, ⟨[] ++ pa, pv, trodAll_append (hargs _ (fun _ _ => rfl)) (hres _ _ _), hvars _ (fun _ _ => rfl), rfl, ?_, ?_⟩, ?_⟩
    · intro b off hp
      have hp' : MemPlace.cell b off ∈ before := by rw [hps]; simpa using hp
      have hl : b < W.heap.size := hlt _ hp'
      rw [hb.frozen hl]
      exact hz b off hp'
    · intro ha
      have := hn ha
      rw [hps] at this
      simpa using this
    · intro p hp _
      rw [hps]
      simpa using hp
end Go.Ab

/- Quick forms of a few operations. Under: nothing. -/
namespace Go.Ab

def ikCode : IntKind → Nat
  | .i8 => 0 | .i16 => 1 | .i32 => 2 | .i64 => 3 | .u8 => 4 | .u16 => 5 | .u32 => 6 | .u64 => 7
def ikEq (k k' : IntKind) : Bool := Nat.beq (ikCode k) (ikCode k')
theorem ikEq_eq (k k' : IntKind) : ikEq k k' = decide (k = k') := by cases k <;> cases k' <;> rfl

def wrapE (k : IntKind) (n : Int) : Int := match k with
  | .i64 => (match n with
    | .ofNat m => (match Nat.blt m 9223372036854775808 with | true => .ofNat m | false => IntKind.wrap .i64 (.ofNat m))
    | n => IntKind.wrap .i64 n)
  | k => IntKind.wrap k n

theorem wrapE_eq (k : IntKind) (n : Int) : wrapE k n = k.wrap n := by
  cases k <;> try rfl
  cases n with
  | negSucc m => rfl
  | ofNat m =>
    simp only [wrapE]
    cases h : Nat.blt m 9223372036854775808 with
    | false => rfl
    | true =>
      have hm : m < 9223372036854775808 := blt_iff.1 h
      rw [IntKind.wrap_i64]
      simp only [Int.ofNat_eq_natCast]
      omega

def ltE : Int → Int → Bool
  | .ofNat m, .ofNat n => Nat.blt m n
  | .ofNat _, .negSucc _ => false
  | .negSucc _, .ofNat _ => true
  | .negSucc m, .negSucc n => Nat.blt n m

theorem ltE_iff (a b : Int) : ltE a b = true ↔ a < b := by
  cases a <;> cases b <;> simp only [ltE, blt_iff] <;> first | omega | skip
  all_goals (simp; try omega)

theorem ltE_eq (a b : Int) : ltE a b = decide (a < b) := by
  rw [Bool.eq_iff_iff, ltE_iff]; simp

def eqE : Int → Int → Bool
  | .ofNat m, .ofNat n => Nat.beq m n
  | .negSucc m, .negSucc n => Nat.beq m n
  | _, _ => false

theorem eqE_eq (a b : Int) : eqE a b = (a == b) := by
  rw [Bool.eq_iff_iff]
  cases a <;> cases b <;> simp [eqE, Nat.beq_eq] <;> omega

def opInt (op : BinOp) (k : IntKind) (a b : Int) : Option AV := match op with
  | .add => some (.pv (.int k (wrapE k (a + b))))
  | .sub => some (.pv (.int k (wrapE k (a - b))))
  | .mul => some (.pv (.int k (wrapE k (a * b))))
  | .quo => if b = 0 then none else some (.pv (.int k (wrapE k (a.tdiv b))))
  | .rem => if b = 0 then none else some (.pv (.int k (a.tmod b)))
  | .eql => some (.pv (.bool (eqE a b)))
  | .neq => some (.pv (.bool (!(eqE a b))))
  | .lss => some (.pv (.bool (ltE a b)))
  | .leq => some (.pv (.bool (!(ltE b a))))
  | .gtr => some (.pv (.bool (ltE b a)))
  | .geq => some (.pv (.bool (!(ltE a b))))
  | _ => none

def binopE (op : BinOp) (x y : AV) : Option AV := match x with
  | .pv p => (match p with
    | .int k a => (match y with
      | .pv q => (match q with
        | .int k' b => (match ikEq k k' with | true => opInt op k a b | false => none)
        | _ => none)
      | _ => none)
    | _ => binop op x y)
  | _ => binop op x y

theorem binopE_eq (op : BinOp) (x y : AV) : binopE op x y = binop op x y := by
  cases x with
  | pv p =>
    cases p with
    | int k a =>
      cases y with
      | pv q =>
        cases q with
        | int k' b =>
          simp only [binopE, binop, ikEq_eq]
          by_cases h : k = k'
          · simp only [h, decide_true, if_true]
            cases op <;> simp only [opInt, wrapE_eq, eqE_eq, ltE_eq] <;> first | rfl | skip
            · congr 3; rw [Bool.eq_iff_iff]; simp
            · congr 3; rw [Bool.eq_iff_iff]; simp
          · simp only [h, decide_false, if_false]
        | _ => cases op <;> rfl
      | _ => cases op <;> rfl
    | _ => rfl
  | _ => rfl

def scalarE : Nat → AV → AV → Option Bool
  | 0, .pv (.int k a), .pv (.int k' b) => (match ikEq k k' with | true => some (eqE a b) | false => none)
  | k, a, b => scalarEq k a b

theorem scalarE_eq (n : Nat) (a b : AV) : scalarE n a b = scalarEq n a b := by
  unfold scalarE
  split
  · rename_i k a k' b
    simp only [scalarEq, ikEq_eq, eqE_eq]
    by_cases h : k = k' <;> simp [h]
  · rfl
end Go.Ab

/- One step, in small pieces. Under: nothing. -/
namespace Go.Ab

def cellsEqE : List Nat → List AV → List AV → Option Bool
  | [], [], [] => some true
  | k :: ks, a :: l, b :: m => match scalarE k a b with
    | some x => match cellsEqE ks l m with | some y => some (x && y) | none => none
    | none => none
  | _, _, _ => none

theorem cellsEqE_eq : ∀ (ks : List Nat) (l m : List AV), cellsEqE ks l m = cellsEq ks l m
  | [], [], [] => rfl
  | k :: ks, a :: l, b :: m => by simp only [cellsEqE, cellsEq, scalarE_eq, cellsEqE_eq ks l m]; rfl
  | [], [], _ :: _ => rfl
  | [], _ :: _, _ => rfl
  | _ :: _, [], _ => rfl
  | _ :: _, _ :: _, [] => rfl

def st_mv (_σ : Store) (_nm : Nat) (ev : RA → AV) (x : RA) : Option Eff :=
  Eff.of (ev x)

def st_pick (_σ : Store) (_nm : Nat) (ev : RA → AV) (c : RA) (a : RA) (b : RA) : Option Eff :=
  match ev c with
    | .pv (.bool x) => (match x with | true => Eff.of (ev a) | false => Eff.of (ev b))
    | _ => none

def st_alloc (_σ : Store) (nm : Nat) (_ev : RA → AV) (zero : List AV) : Option Eff :=
  some { v := .ptr nm 0 0, up := [(nm, some (.box zero.length [zero] false))] }

def st_box (_σ : Store) (nm : Nat) (ev : RA → AV) (n : Nat) (x : RA) : Option Eff :=
  if (ev x).cells.length = n ∧ allCells (ev x).cells = true then some { v := .ptr nm 0 0, up := [(nm, some (.box n [(ev x).cells] false))] } else none

def st_load (σ : Store) (_nm : Nat) (ev : RA → AV) (agg : Bool) (n : Nat) (x : RA) : Option Eff :=
  match ev x with
    | .ptr b i j => match find σ b with
      | some o => match o.row? i with
        | some row => if j + n ≤ row.length then (match mkAgg agg ((row.drop j).take n) with | some v => some { v := v, rd := [b] } | none => none) else none
        | none => none
      | none => none
    | .pv (.ref cs) => if n ≤ cs.length then (match mkAgg agg ((cs.take n).map .pv) with | some v => some { v := v } | none => none) else none
    | _ => none

def st_store (σ : Store) (_nm : Nat) (ev : RA → AV) (n : Nat) (a : RA) (v : RA) : Option Eff :=
  match ev a with
    | .ptr b i j => match find σ b with
      | some (.box es rows false) => match rows[i]? with
        | some row => if (ev v).cells.length = n ∧ j + n ≤ row.length ∧ allCells (ev v).cells = true then
            some { v := .undef, rd := [b], up := [(b, some (.box es (rows.set i (setRange row j (ev v).cells)) false))] } else none
        | none => none
      | some (.arr es rows false) => match rows[i]? with
        | some row => match pures? (ev v).cells with
          | some ps => if (ev v).cells.length = n ∧ j + n ≤ row.length ∧ allCells (ev v).cells = true then
              some { v := .undef, rd := [b], up := [(b, some (.arr es (rows.set i (row.take j ++ ps ++ row.drop (j + ps.length))) false))] } else none
          | none => if (ev v).cells.length = n ∧ j + n ≤ row.length ∧ allCells (ev v).cells = true then
              some { v := .undef, rd := [b], up := [(b, some (.box es ((rows.map (·.map AV.pv)).set i (setRange (row.map .pv) j (ev v).cells)) false))] } else none
        | none => none
      | _ => none
    | _ => none

def st_bin (_σ : Store) (_nm : Nat) (ev : RA → AV) (op : BinOp) (x : RA) (y : RA) : Option Eff :=
  match binopE op (ev x) (ev y) with | some v => Eff.of v | none => none

def st_eqs (_σ : Store) (_nm : Nat) (ev : RA → AV) (neq : Bool) (kinds : List Nat) (x : RA) (y : RA) : Option Eff :=
  match cellsEqE kinds (ev x).cells (ev y).cells with
    | some b => if (ev x).isAggV = true ∧ (ev y).isAggV = true then Eff.of (.pv (.bool (match neq with | true => !b | false => b))) else none
    | none => none

def st_eqb (_σ : Store) (_nm : Nat) (ev : RA → AV) (neq : Bool) (x : RA) (y : RA) : Option Eff :=
  match ev x, ev y with
    | .pv (.bool a), .pv (.bool b) => Eff.of (.pv (.bool (match neq with | true => !(a == b) | false => a == b)))
    | _, _ => none

def st_isnil (σ : Store) (_nm : Nat) (ev : RA → AV) (neq : Bool) (x : RA) : Option Eff :=
  match (ev x).e with
    | .emp _ => Eff.of (.pv (.bool (!neq)))
    | .fsl _ rows => (match rows with | [] => Eff.of .anyB | _ :: _ => Eff.of (.pv (.bool neq)))
    | .pv (.sl _ rows) => (match rows with | [] => Eff.of .anyB | _ :: _ => Eff.of (.pv (.bool neq)))
    | .own b _ n => match find σ b with
      | some _ => (match n with | 0 => some { v := .anyB, rd := [b] } | _ + 1 => some { v := .pv (.bool neq), rd := [b] })
      | none => none
    | _ => none

def st_not (_σ : Store) (_nm : Nat) (ev : RA → AV) (x : RA) : Option Eff :=
  match ev x with | .pv (.bool b) => Eff.of (.pv (.bool (!b))) | _ => none

def st_neg (_σ : Store) (_nm : Nat) (ev : RA → AV) (x : RA) : Option Eff :=
  match ev x with | .pv (.int k n) => Eff.of (.pv (.int k (k.wrap (0 - n)))) | _ => none

def st_conv (_σ : Store) (_nm : Nat) (ev : RA → AV) (k : IntKind) (x : RA) : Option Eff :=
  match ev x with | .pv (.int _ n) => Eff.of (.pv (.int k (k.wrap n))) | _ => none

def st_same (_σ : Store) (_nm : Nat) (ev : RA → AV) (x : RA) : Option Eff :=
  match ev x with | .pv (.str s) => Eff.of (.pv (.str s)) | _ => none

def st_s2b (_σ : Store) (nm : Nat) (ev : RA → AV) (x : RA) : Option Eff :=
  match ev x with
    | .pv (.str s) => some { v := .own nm 0 s.length, up := [(nm, some (.arr 1 (s.map fun b => [PV.int .u8 b.toNat]) false))] }
    | _ => none

def st_b2s (σ : Store) (_nm : Nat) (ev : RA → AV) (x : RA) : Option Eff :=
  match prowsOf σ 1 (ev x) with
    | some (rows, rd) => match bytesOfRows rows with | some s => some { v := .pv (.str s), rd := rd } | none => none
    | none => none

def st_mkf (_σ : Store) (_nm : Nat) (ev : RA → AV) (fn : Fn) (first : List RA) (caps : List RA) : Option Eff :=
  Eff.of (.func fn (first.map ev) (caps.map ev))

def st_mkmap (_σ : Store) (nm : Nat) (_ev : RA → AV)  : Option Eff :=
  some { v := .mref nm, up := [(nm, some (.map []))] }

def st_insert (σ : Store) (_nm : Nat) (ev : RA → AV) (m : RA) (k : RA) (v : RA) : Option Eff :=
  match ev m, ev k with
    | .mref b, .pv (.str s) => match find σ b with
      | some (.map ents) => match lookupE s ents with
        | none => some { v := .undef, rd := [b], up := [(b, some (.map (insK s (ev v) ents)))] }
        | some _ => none
      | _ => none
    | _, _ => none

def st_lookup (σ : Store) (_nm : Nat) (ev : RA → AV) (m : RA) (k : RA) (zero : AV) : Option Eff :=
  match ev m, ev k with
    | .mref b, .pv (.str s) => match find σ b with
      | some (.map ents) => some { v := match lookupE s ents with | some v => .tup [v, .pv (.bool true)] | none => .tup [zero, .pv (.bool false)], rd := [b] }
      | _ => none
    | _, _ => none

def st_clear (σ : Store) (_nm : Nat) (ev : RA → AV) (es : Nat) (zero : List PV) (x : RA) : Option Eff :=
  match ev x with
    | .own b i n => match find σ b with
      | some (.arr es' rows false) => if es' = es ∧ i + n ≤ rows.length ∧ 0 < n ∧ zero.length = es then some { v := .tup [], rd := [b], up := [(b, some (.arr es (rows.take i ++ List.replicate n zero ++ rows.drop (i + n)) false))] } else none
      | _ => none
    | _ => none

def st_mksl (_σ : Store) (nm : Nat) (ev : RA → AV) (es : Nat) (bytes : Nat) (zero : List PV) (n : RA) : Option Eff :=
  match idxOf (ev n) with
    | some k => if 0 ≤ k ∧ k * bytes ≤ 2 ^ 40 ∧ zero.length = es ∧ 0 < bytes then some { v := .own nm 0 k.toNat, up := [(nm, some (.arr es (List.replicate k.toNat zero) false))] } else none
    | none => none

def st_slice (σ : Store) (_nm : Nat) (ev : RA → AV) (es : Nat) (x : RA) (lo : Option RA) (hi : Option RA) (mx : Option RA) : Option Eff :=
  match (ev x).e with
    | .own b i n => match find σ b with
      | some o => match optIdx ev 0 lo, optIdx ev n hi, optIdx ev ((o.len : Int) - i) mx with
        | some l, some h, some m => if 0 ≤ l ∧ l ≤ h ∧ h ≤ m ∧ (mx.isNone = true ∨ m ≤ n) ∧ o.es = es ∧ (mx.isNone = true ∨ (o.len : Int) ≤ i + m) then some { v := .own b (i + l.toNat) (h - l).toNat, rd := [b] } else none
        | _, _, _ => none
      | none => none
    | .pv (.sl e rows) => if e = es then step.sliceP ev es rows lo hi mx else none
    | .fsl e rows => if e = es then step.sliceP ev es rows lo hi mx else none
    | .emp e => match optIdx ev 0 lo, optIdx ev 0 hi, optIdx ev 0 mx with
      | some l, some h, some m => if l = 0 ∧ h = 0 ∧ m = 0 then Eff.of (.emp e) else none
      | _, _, _ => none
    | _ => none

def st_sslice (_σ : Store) (_nm : Nat) (ev : RA → AV) (x : RA) (lo : Option RA) (hi : Option RA) : Option Eff :=
  match ev x with
    | .pv (.str s) => match optIdx ev 0 lo, optIdx ev s.length hi with
      | some l, some h => if 0 ≤ l ∧ l ≤ h ∧ h ≤ s.length then Eff.of (.pv (.str ((s.take h.toNat).drop l.toNat))) else none
      | _, _ => none
    | _ => none

def st_faddr (σ : Store) (_nm : Nat) (ev : RA → AV) (x : RA) (off : Nat) : Option Eff :=
  match ev x with
    | .ptr b i j => match find σ b with | some _ => some { v := .ptr b i (j + off), rd := [b] } | none => none
    | .pv (.ref cs) => Eff.of (.pv (.ref (cs.drop off)))
    | _ => none

def st_field (_σ : Store) (_nm : Nat) (ev : RA → AV) (agg : Bool) (off : Nat) (n : Nat) (x : RA) : Option Eff :=
  if off + n ≤ (ev x).cells.length ∧ (ev x).isAggV = true then (match mkAgg agg (((ev x).cells.drop off).take n) with | some v => Eff.of v | none => none) else none

def st_iaddr (σ : Store) (_nm : Nat) (ev : RA → AV) (es : Nat) (x : RA) (i : RA) : Option Eff :=
  match idxOf (ev i) with
    | some k => match ev x with
      | .own b i n => match find σ b with
        | some o => if 0 ≤ k ∧ k < n ∧ o.es = es then some { v := .ptr b (i + k.toNat) 0, rd := [b] } else none
        | none => none
      | .pv (.sl e rows) => if e = es then step.iaddrP k rows else none
      | .fsl e rows => if e = es then step.iaddrP k rows else none
      | _ => none
    | none => none

def st_paddr (σ : Store) (_nm : Nat) (ev : RA → AV) (len : Nat) (es : Nat) (x : RA) (i : RA) : Option Eff :=
  match idxOf (ev i) with
    | some k => if 0 ≤ k ∧ k < len then (match ev x with
      | .ptr b r j => match find σ b with | some _ => some { v := .ptr b r (j + k.toNat * es), rd := [b] } | none => none
      | .pv (.ref cs) => Eff.of (.pv (.ref (cs.drop (k.toNat * es))))
      | _ => none) else none
    | none => none

def st_isnilf (_σ : Store) (_nm : Nat) (ev : RA → AV) (neq : Bool) (x : RA) : Option Eff :=
  match ev x with
    | .func _ _ _ => Eff.of (.pv (.bool neq))
    | .pv (.func _ _ _) => Eff.of (.pv (.bool neq))
    | .pv .nilFunc => Eff.of (.pv (.bool (!neq)))
    | _ => none

def st_index (_σ : Store) (_nm : Nat) (ev : RA → AV) (agg : Bool) (len : Nat) (es : Nat) (x : RA) (i : RA) : Option Eff :=
  match idxOf (ev i) with
    | some k => if 0 ≤ k ∧ k < len ∧ (ev x).cells.length = len * es ∧ (ev x).isAggV = true then (match mkAgg agg (((ev x).cells.drop (k.toNat * es)).take es) with | some v => Eff.of v | none => none) else none
    | none => none

def st_sindex (_σ : Store) (_nm : Nat) (ev : RA → AV) (x : RA) (i : RA) : Option Eff :=
  match ev x, idxOf (ev i) with
    | .pv (.str s), some k => if 0 ≤ k then (match s[k.toNat]? with | some b => Eff.of (.pv (.int .u8 b.toNat)) | none => none) else none
    | _, _ => none

def st_extract (_σ : Store) (_nm : Nat) (ev : RA → AV) (x : RA) (i : Nat) : Option Eff :=
  match ev x with
    | .tup vs => match vs[i]? with | some v => Eff.of v | none => none
    | .pv (.tup ps) => match ps[i]? with | some p => Eff.of (.pv p) | none => none
    | _ => none

def st_call (_σ : Store) (_nm : Nat) (_ev : RA → AV) (_u0 : RA) (_u1 : List RA) : Option Eff :=
  none

def st_slen (σ : Store) (_nm : Nat) (ev : RA → AV) (x : RA) : Option Eff :=
  match (ev x).e with
    | .own b _ n => match find σ b with | some _ => some { v := .pv (.int .i64 n), rd := [b] } | none => none
    | .pv (.sl _ rows) => Eff.of (.pv (.int .i64 rows.length))
    | .fsl _ rows => Eff.of (.pv (.int .i64 rows.length))
    | .emp _ => Eff.of (.pv (.int .i64 0))
    | _ => none

def st_strlen (_σ : Store) (_nm : Nat) (ev : RA → AV) (x : RA) : Option Eff :=
  match ev x with | .pv (.str s) => Eff.of (.pv (.int .i64 s.length)) | _ => none

def st_alen (_σ : Store) (_nm : Nat) (_ev : RA → AV) (n : Nat) : Option Eff :=
  Eff.of (.pv (.int .i64 n))

def st_append (σ : Store) (nm : Nat) (ev : RA → AV) (es : Nat) (bytes : Nat) (s : RA) (x : RA) : Option Eff :=
  match (ev s).e with
    | .emp _ => match rowsOf σ es (ev x) with
      | some (xs, rd) => if xs.length * bytes ≤ 2 ^ 40 then some { v := .own nm 0 xs.length, rd := rd, up := [(nm, some (mkObj es xs))] } else none
      | none => none
    | .fsl e rows => match prowsOf σ es (ev x) with
      | some (xs, rd) => if (rows.length + xs.length) * bytes ≤ 2 ^ 40 ∧ e = es then some { v := .pv (.sl es (rows ++ xs)), rd := rd } else none
      | none => none
    | .own b 0 n => match find σ b with
      | some (.arr es' rows sl) => if rows.length = n ∧ es' = es then (match prowsOf σ es (ev x) with
        | some (xs, rd) => if (n + xs.length) * bytes ≤ 2 ^ 40 then some { v := .own nm 0 (n + xs.length), rd := b :: rd, up := [(b, none), (nm, some (.arr es (rows ++ xs) sl))] } else none
        | none => match rowsOf σ es (ev x) with
          | some (xs, rd) => if (n + xs.length) * bytes ≤ 2 ^ 40 then some { v := .own nm 0 (n + xs.length), rd := b :: rd, up := [(b, none), (nm, some (.box es (rows.map (·.map AV.pv) ++ xs) sl))] } else none
          | none => none) else (match sl with
            | true => none
            | false => match prowsOf σ es (ev x) with
              | some (xs, rd) => if n + xs.length ≤ rows.length ∧ 0 < rows.length ∧ es' = es then some { v := .own b 0 (n + xs.length), rd := b :: rd, up := [(b, some (.arr es (rows.take n ++ xs ++ rows.drop (n + xs.length)) false))] } else none
              | none => none)
      | some (.box es' rows sl) => if rows.length = n ∧ es' = es then (match rowsOf σ es (ev x) with
        | some (xs, rd) => if (n + xs.length) * bytes ≤ 2 ^ 40 then some { v := .own nm 0 (n + xs.length), rd := b :: rd, up := [(b, none), (nm, some (.box es (rows ++ xs) sl))] } else none
        | none => none) else none
      | _ => none
    | _ => none

def st_copy (σ : Store) (_nm : Nat) (ev : RA → AV) (es : Nat) (d : RA) (s : RA) : Option Eff :=
  match ev d with
    | .own b i n => match find σ b with
      | some (.arr es' rows false) => if es' = es then (match prowsOf σ es (ev s) with
        | some (xs, rd) => if i + n ≤ rows.length then
            some { v := .pv (.int .i64 (min xs.length n : Nat)), rd := b :: rd, up := [(b, some (.arr es (rows.take i ++ xs.take (min xs.length n) ++ rows.drop (i + min xs.length n)) false))] } else none
        | none => none) else none
      | _ => none
    | _ => none

def st_mm (_σ : Store) (_nm : Nat) (ev : RA → AV) (isMax : Bool) (xs : List RA) : Option Eff :=
  match xs with
    | [] => none
    | x :: l => match mmF isMax ev (ev x) l with | some v => Eff.of v | none => none

def st_build (_σ : Store) (_nm : Nat) (ev : RA → AV) (zeros : List AV) (parts : List (Nat × Nat × RA)) : Option Eff :=
  match fillA zeros (parts.map fun (o, n, x) => (o, n, ev x)) with | some cs => Eff.of (.agg cs) | none => none

def st_bsl (_σ : Store) (nm : Nat) (ev : RA → AV) (es : Nat) (n : Nat) (zeros : List AV) (parts : List (Nat × RA)) : Option Eff :=
  match fillA (List.replicate n zeros).flatten (parts.map fun (i, x) => (i * es, es, ev x)) with
    | some cs => if allCells cs = true then some { v := .own nm 0 n, up := [(nm, some (mkObj es (step.chop es n cs)))] } else none
    | none => none

def stepE (σ : Store) (nm : Nat) (ev : RA → AV) : ROp → Option Eff
  | .mv x => st_mv σ nm ev x
  | .pick c a b => st_pick σ nm ev c a b
  | .alloc zero => st_alloc σ nm ev zero
  | .box n x => st_box σ nm ev n x
  | .load agg n x => st_load σ nm ev agg n x
  | .store n a v => st_store σ nm ev n a v
  | .bin op x y => st_bin σ nm ev op x y
  | .eqs neq kinds x y => st_eqs σ nm ev neq kinds x y
  | .eqb neq x y => st_eqb σ nm ev neq x y
  | .isnil neq x => st_isnil σ nm ev neq x
  | .not x => st_not σ nm ev x
  | .neg x => st_neg σ nm ev x
  | .conv k x => st_conv σ nm ev k x
  | .same x => st_same σ nm ev x
  | .s2b x => st_s2b σ nm ev x
  | .b2s x => st_b2s σ nm ev x
  | .mkf fn first caps => st_mkf σ nm ev fn first caps
  | .mkmap  => st_mkmap σ nm ev 
  | .insert m k v => st_insert σ nm ev m k v
  | .lookup m k zero => st_lookup σ nm ev m k zero
  | .clear es zero x => st_clear σ nm ev es zero x
  | .mksl es bytes zero n => st_mksl σ nm ev es bytes zero n
  | .slice es x lo hi mx => st_slice σ nm ev es x lo hi mx
  | .sslice x lo hi => st_sslice σ nm ev x lo hi
  | .faddr x off => st_faddr σ nm ev x off
  | .field agg off n x => st_field σ nm ev agg off n x
  | .iaddr es x i => st_iaddr σ nm ev es x i
  | .paddr len es x i => st_paddr σ nm ev len es x i
  | .isnilf neq x => st_isnilf σ nm ev neq x
  | .index agg len es x i => st_index σ nm ev agg len es x i
  | .sindex x i => st_sindex σ nm ev x i
  | .extract x i => st_extract σ nm ev x i
  | .call _u0 _u1 => st_call σ nm ev _u0 _u1
  | .slen x => st_slen σ nm ev x
  | .strlen x => st_strlen σ nm ev x
  | .alen n => st_alen σ nm ev n
  | .append es bytes s x => st_append σ nm ev es bytes s x
  | .copy es d s => st_copy σ nm ev es d s
  | .mm isMax xs => st_mm σ nm ev isMax xs
  | .build zeros parts => st_build σ nm ev zeros parts
  | .bsl es n zeros parts => st_bsl σ nm ev es n zeros parts

def ROp.isCall : ROp → Bool
  | .call _ _ => true
  | _ => false

theorem stepE_eq (σ : Store) (nm : Nat) (ev : RA → AV) (op : ROp) : stepE σ nm ev op = step σ nm ev op := by
  cases op <;> first | rfl | (simp only [stepE, st_bin, binopE_eq]; rfl) | (simp only [stepE, st_eqs, cellsEqE_eq]; rfl)

end Go.Ab

/- Temporaries, by their ways. Under: nothing. -/
namespace Go.Ab

inductive Way where
  | here
  | lft (p : Way)
  | rgt (p : Way)

def way : Nat → Nat → Way
  | 0, _ => .here
  | d + 1, n => match n % 2 with
    | 0 => .lft (way d (n / 2))
    | _ => .rgt (way d (n / 2))

def leafV (t : T) : AV := match t with | .leaf v => v | _ => .undef

noncomputable def getP (p : Way) : T → AV := Way.rec (motive := fun _ => T → AV) (fun t => leafV t) (fun _ ih t => ih t.l) (fun _ ih t => ih t.r) p

noncomputable def setP (v : AV) (p : Way) : T → T := Way.rec (motive := fun _ => T → T) (fun _ => .leaf v) (fun _ ih t => .node (ih t.l) t.r) (fun _ ih t => .node t.l (ih t.r)) p

theorem getP_eq : ∀ (d : Nat) (t : T) (n : Nat), getP (way d n) t = T.get d t n
  | 0, t, n => by cases t <;> rfl
  | d + 1, t, n => by
    have hl : ∀ (t : T), T.get (d + 1) t n = match n % 2 with | 0 => T.get d t.l (n / 2) | _ => T.get d t.r (n / 2) := by
      intro t
      cases t with
      | node l r => rfl
      | nil => simp only [T.l, T.r, T.get]; split <;> (cases d <;> rfl)
      | leaf x => simp only [T.l, T.r, T.get]; split <;> (cases d <;> rfl)
    rw [hl]
    simp only [way]
    rcases Nat.mod_two_eq_zero_or_one n with h | h <;> simp only [h]
    · exact getP_eq d _ _
    · exact getP_eq d _ _

theorem setP_eq (v : AV) : ∀ (d : Nat) (t : T) (n : Nat), setP v (way d n) t = T.set d t n v
  | 0, t, n => rfl
  | d + 1, t, n => by
    simp only [way, T.set]
    rcases Nat.mod_two_eq_zero_or_one n with h | h <;> simp only [h]
    · show T.node (setP v (way d (n / 2)) t.l) t.r = _
      rw [setP_eq v d]
    · show T.node t.l (setP v (way d (n / 2)) t.r) = _
      rw [setP_eq v d]

noncomputable def tget10 (t : T) (n : Nat) : AV := getP (way 10 n) t
noncomputable def tset10 (t : T) (n : Nat) (v : AV) : T := setP v (way 10 n) t
theorem tget_eq (t : T) (n : Nat) : tget10 t n = T.get tdepth t n := getP_eq 10 t n
theorem tset_eq (t : T) (n : Nat) (v : AV) : tset10 t n v = T.set tdepth t n v := setP_eq v 10 t n

/-- What an operand holds. -/
noncomputable def evE (G : Gl) (st : St) : RA → AV
  | .t n => tget10 st.tm n
  | .c v => v
  | .f g => .func (.func g) [] []
  | .g i => match G i with | some cs => .pv (.ref cs) | none => .undef

theorem evE_eq (G : Gl) (st : St) : evE G st = St.ev G st := by
  funext r
  cases r with
  | t n => exact tget_eq _ _
  | c v => rfl
  | f g => rfl
  | g i => rfl
end Go.Ab

/- Runs: the own code evaluated, and that its result is a contract. Under: nothing. -/
namespace Go.Ab

abbrev RunY := List AV → Store → Nat → Option (AV × Store × Nat × Nat)

/-- The temporaries are left to be looked at later. -/
noncomputable def putE {α : Sort _} (st : St) (dst : Option Nat) (v : AV) (σ : Store) (K : St → α) : α :=
  match st with
  | ⟨tm, _, nx, nt⟩ => match dst with
    | some d => K ⟨tset10 tm d v, σ, nx, nt⟩
    | none => K ⟨tm, σ, nx, nt⟩

theorem putE_eq {α : Sort _} (st : St) (dst : Option Nat) (v : AV) (σ : Store) (K : St → α) : putE st dst v σ K = K (putW st dst v σ) := by
  obtain ⟨tm, s, nx, nt⟩ := st
  cases dst <;> simp [putE, putW, tset_eq]

structure EnvE where
  inl : Nat → Option RunI
  itr : Nat → Option (Nat → RunY → RunI)
  yld : Option (Nat × RunY)
  call : Nat → List PV → Option (Own × PV)

section
variable (G : Gl)

noncomputable def opE {β : Type} (C : Nat → List PV → Option (Own × PV)) (r : RIns) (nm : Nat) (st : St) (K : St → Rec → Option β) : Option β :=
  match r.op with
  | .call f args => match calleeOf (evE G st f) with
    | some (g, a, b) => match G.prim g with
      | some p => (match p.run (a ++ args.map (evE G st) ++ b) st.σ, st with
        | some (v, c, es, rows), ⟨tm, σ, nx, nt⟩ => forceN c fun c' => upAllK σ [(c', some (.arr es rows false))] fun σ' => putE ⟨tm, σ, nx, nt⟩ r.dst v σ' fun st' => K st' { rd := [c'], sl := [], wr := [c'], pre := r.pre }
        | none, _ => none)
      | none => match pubL (pub st.σ 8) (a ++ args.map (evE G st) ++ b) with
        | some (ps, m) => (match C g ps, st with
          | some (own, res), ⟨tm, σ, nx, nt⟩ => match imp own nm res with
            | (v, up) => sealAllK σ m fun σ₁ => upAllK σ₁ up fun σ₂ => putE ⟨tm, σ, nx, nt⟩ r.dst v σ₂ fun st' => K st' { rd := [], sl := m, wr := up.map (·.1), pre := r.pre }
          | none, _ => none)
        | none => none
    | none => none
  | op => match st with
    | ⟨tm, σ, nx, nt⟩ => match stepE σ nm (evE G ⟨tm, σ, nx, nt⟩) op with
      | some e => putE ⟨tm, σ, nx, nt⟩ r.dst e.v (upAll σ e.up) fun st' => K st' (recOf (evE G ⟨tm, σ, nx, nt⟩) op e r.pre)
      | none => none

noncomputable def insE {β : Type} (C : Nat → List PV → Option (Own × PV)) (r : RIns) (nm : Nat) (st : St) (K : St → Rec → Option β) : Option β :=
  match r.guard with
  | none => opE G C r nm st K
  | some (t, want) => match evE G st (.t t) with
    | .pv (.bool x) => (match x, want with
      | true, true => opE G C r nm st K
      | false, false => opE G C r nm st K
      | _, _ => match st with | ⟨tm, σ, nx, nt⟩ => putE ⟨tm, σ, nx, nt⟩ r.dst (.tup []) σ fun st' => K st' { rd := [], sl := [], wr := [], pre := r.pre })
    | .tup [] => (match st with | ⟨tm, σ, nx, nt⟩ => putE ⟨tm, σ, nx, nt⟩ r.dst (.tup []) σ fun st' => K st' { rd := [], sl := [], wr := [], pre := r.pre })
    | _ => none

/-- An operation that is no call. -/
noncomputable def opN {β : Type} (r : RIns) (nm : Nat) (st : St) (K : St → Rec → Option β) : Option β :=
  match st with
  | ⟨tm, σ, nx, nt⟩ => match stepE σ nm (evE G ⟨tm, σ, nx, nt⟩) r.op with
    | some e => putE ⟨tm, σ, nx, nt⟩ r.dst e.v (upAll σ e.up) fun st' => K st' (recOf (evE G ⟨tm, σ, nx, nt⟩) r.op e r.pre)
    | none => none

noncomputable def insN {β : Type} (r : RIns) (nm : Nat) (st : St) (K : St → Rec → Option β) : Option β :=
  match r.guard with
  | none => opN G r nm st K
  | some (t, want) => match evE G st (.t t) with
    | .pv (.bool x) => (match x, want with
      | true, true => opN G r nm st K
      | false, false => opN G r nm st K
      | _, _ => match st with | ⟨tm, σ, nx, nt⟩ => putE ⟨tm, σ, nx, nt⟩ r.dst (.tup []) σ fun st' => K st' { rd := [], sl := [], wr := [], pre := r.pre })
    | .tup [] => (match st with | ⟨tm, σ, nx, nt⟩ => putE ⟨tm, σ, nx, nt⟩ r.dst (.tup []) σ fun st' => K st' { rd := [], sl := [], wr := [], pre := r.pre })
    | _ => none

theorem insN_eq {β : Type} (C : Nat → List PV → Option (Own × PV)) (r : RIns) (nm : Nat) (st : St) (K : St → Rec → Option β) (h : r.op.isCall = false) : insN G r nm st K = insE G C r nm st K := by
  have : opN G r nm st K = opE G C r nm st K := by
    obtain ⟨dst, op, guard, pre⟩ := r
    cases op <;> first | rfl | cases h
  unfold insN insE
  rw [this]

/-- Reads and writes nothing. -/
def quietR (r : Rec) : Bool := match r.rd, r.sl, r.wr, r.ins with
  | [], [], [], none => true
  | _, _, _, _ => false

/-- The operation against those before it, the last one first. -/
def compatR (r : Rec) : Nat → List Rec → Bool
  | k + 1, x :: l => (quietR x || (!x.clash r || r.pre.testBit k)) && compatR r k l
  | 0, _ :: _ => false
  | _, [] => true

noncomputable def opsE {β : Type} (C : Nat → List PV → Option (Own × PV)) : List RIns → Nat → Nat → List Rec → St → (St → Option β) → Option β
  | [], _, _, _, st, K => K st
  | r :: l, nm, k, acc, st, K => forceN nm fun nm' => forceN k fun k' => insE G C r nm' st fun st' rec => match quietR rec || compatR rec k' acc with
    | true => opsE C l (nm' + stride) (k' + 1) (rec :: acc) st' K
    | false => none

noncomputable def callSE {β : Type} (h : RunI) (args : List AV) (dst : Option Nat) (st : St) (K : St → Option β) : Option β :=
  match st with
  | ⟨tm, σ, nx, nt⟩ => match h args σ nx with
    | some (v, σ', nx') => putE ⟨tm, σ', nx', nt⟩ dst v σ' K
    | none => none

noncomputable def callYE {β : Type} (h : RunY) (args : List AV) (dst : Option Nat) (st : St) (K : St → Option β) : Option β :=
  match st with
  | ⟨tm, σ, nx, nt⟩ => match tm.get tdepth markT with
    | .mark 0 => (match h args σ nx with
      | some (v, σ', nx', pd) => forceN pd fun pd' => putE ⟨T.set tdepth tm markT (.mark pd'), σ', nx', nt⟩ dst v σ' K
      | none => none)
    | _ => none

noncomputable def insSE {β : Type} (E : EnvE) (r : RIns) (nm : Nat) (st : St) (K : St → Option β) : Option β :=
  match r.op with
  | .call f args => match evE G st f with
    | .yld b => (match E.yld, r.guard with
      | some (b', h), none => (match b' == b with
        | true => callYE h (args.map (evE G st)) r.dst st K
        | false => none)
      | _, _ => none)
    | fv => match calleeOf fv with
      | some (g, a, b) => (match E.inl g with
        | some h => (match r.guard with
          | none => callSE h (a ++ args.map (evE G st) ++ b) r.dst st K
          | some (t, want) => match guardOn (evE G st (.t t)) want with
            | true => callSE h (a ++ args.map (evE G st) ++ b) r.dst st K
            | false => insE G E.call r nm st fun st' _ => K st')
        | none => insE G E.call r nm st fun st' _ => K st')
      | none => insE G E.call r nm st fun st' _ => K st'
  | _ => insE G E.call r nm st fun st' _ => K st'

noncomputable def insQ {β : Type} (E : EnvE) (r : RIns) (nm : Nat) (st : St) (K : St → Option β) : Option β :=
  match r.op.isCall with
  | true => insSE G E r nm st K
  | false => insN G r nm st fun st' _ => K st'

theorem insQ_eq {β : Type} (E : EnvE) (r : RIns) (nm : Nat) (st : St) (K : St → Option β) : insQ G E r nm st K = insSE G E r nm st K := by
  unfold insQ
  cases h : r.op.isCall with
  | true => rfl
  | false =>
    simp only
    rw [insN_eq G E.call _ _ _ _ h]
    unfold insSE
    cases ho : r.op with
    | call f args => rw [ho] at h; cases h
    | _ => rfl

noncomputable def opsSE {β : Type} (E : EnvE) : List RIns → Nat → St → (St → Option β) → Option β
  | [], _, st, K => K st
  | r :: l, nm, st, K => forceN nm fun nm' => insQ G E r nm' st fun st' => opsSE E l (nm' + stride) st' K

def loopE (live : List Nat) (nrm : Bool) (f : St → Option (Ex × St)) : Nat → St → Option (Ex × St)
  | 0, _ => none
  | n + 1, s => match (match nrm with | true => normK live s f | false => f s) with
    | some (.normal, s') => loopE live nrm f n s'
    | r => r

def endE : Ex → St → Option (AV × Store × Nat × Nat)
  | .normal, ⟨_, σ, nx, _⟩ => some (.pv (.bool true), σ, nx, 0)
  | .ret, ⟨_, σ, nx, _⟩ => some (.pv (.bool false), σ, nx, 1)
  | .exit i, ⟨_, σ, nx, _⟩ => some (.pv (.bool false), σ, nx, i + 2)

def jumpE (tm : T) (nt : Nat) : AV × Store × Nat → Option (Ex × St)
  | (.mark 0, σ, nx) => some (.normal, ⟨tm, σ, nx, nt⟩)
  | (.mark 1, σ, nx) => some (.ret, ⟨tm, σ, nx, nt⟩)
  | (.mark (k + 2), σ, nx) => some (.exit k, ⟨tm, σ, nx, nt⟩)
  | _ => none

noncomputable def evC (fu : Nat) : RC → Bool → EnvE → St → Option (Ex × St)
  | .skip, _, _, st => some (.normal, st)
  | .reg ops draw, _, E, ⟨tm, σ, nx, nt⟩ => forceN (nx + stride * ops.length) fun nx' => (match draw with
    | true => opsE G E.call ops nx 0 [] ⟨tm, σ, nx', nt⟩ fun st => some (.normal, st)
    | false => opsSE G E ops nx ⟨tm, σ, nx', nt⟩ fun st => some (.normal, st))
  | .seq a b, nrm, E, st => match evC fu a nrm E st with
    | some (.normal, st') => evC fu b nrm E st'
    | r => r
  | .cond c a b, nrm, E, st => match evE G st c with
    | .pv (.bool x) => (match x with | true => evC fu a nrm E st | false => evC fu b nrm E st)
    | _ => none
  | .block id b, nrm, E, st => match evC fu b nrm E st with
    | some (.exit i, st') => (match i == id with | true => some (.normal, st') | false => some (.exit i, st'))
    | r => r
  | .loop live b, nrm, E, st => loopE live nrm (fun s => evC fu b nrm E s) fu st
  | .rng f ps as bd, _, E, ⟨tm, σ, nx, nt⟩ => match calleeOf (evE G ⟨tm, σ, nx, nt⟩ f) with
    | some (g, a, b) => (match E.itr g with
      | some it => forceN (nx + 1) fun nx1 => match it nx (fun args σ₁ nx₁ => match args.length == ps.length with
          | true => setPs ps args tm fun tm' => match evC fu as false ⟨E.inl, fun _ => none, none, E.call⟩ ⟨tm', σ₁, nx₁, nt⟩ with
            | some (.normal, s₁) => (match evC fu bd false ⟨E.inl, fun _ => none, none, E.call⟩ s₁ with
              | some (e, s₂) => endE e s₂
              | none => none)
            | _ => none
          | false => none) (a ++ [.yld nx] ++ b) σ nx1 with
        | some r => jumpE tm nt r
        | none => none
      | none => none)
    | none => none
  | .exit id, _, _, st => some (.exit id, st)
  | .scope b, nrm, E, st => evC fu b nrm E st
  | .ret, _, _, st => some (.ret, st)

noncomputable def retIE (rs : List RRes) : Ex × St → Option (AV × Store × Nat)
  | (.exit _, _) => none
  | (_, ⟨tm, σ, nx, nt⟩) => match resAs G ⟨tm, σ, nx, nt⟩ rs with
    | some vs => forceA (resPV vs) fun v => some (v, σ, nx)
    | none => none

noncomputable def retME : Ex × St → Option (AV × Store × Nat)
  | (.exit _, _) => none
  | (_, ⟨tm, σ, nx, _⟩) => forceA (tm.get tdepth markT) fun v => some (v, σ, nx)

noncomputable def retPE (rs : List RRes) : Ex × St → Option PV
  | (.exit _, _) => none
  | (_, st) => match resAs G st rs with
    | some vs => (match pub st.σ 8 (resPV vs) with
      | some (p, _) => some p
      | none => none)
    | none => none

noncomputable def retOE (rs : List RRes) : Ex × St → Option (Own × PV)
  | (.exit _, _) => none
  | (_, st) => match resAs G st rs with
    | some [.own b 0 n] => (match outRows st.σ b with
      | some (es, rows, _) => (match rows.length == n with | true => some ([(0, 0)], .sl es rows) | false => none)
      | none => none)
    | some [.own b 0 n, .pv (.int k i)] => (match outRows st.σ b with
      | some (es, rows, _) => (match rows.length == n with | true => some ([(0, 0)], .tup [.sl es rows, .int k i]) | false => none)
      | none => none)
    | _ => none

/-- The functions of four tables: run on the caller's store; iterators; run by themselves; these hand out a slice of their own. -/
noncomputable def envE (kn : Nat → List PV → Option (Own × PV)) (ext : Nat → Option RunI) (tab tabI tabC tabO : Nat → Option RFn) (fu : Nat) : Nat → EnvE
  | 0 => ⟨fun _ => none, fun _ => none, none, fun _ _ => none⟩
  | d + 1 => ⟨fun g => match ext g with
      | some r => some r
      | none => match tab g with
        | some c => some fun args σ nx => (match args.length == c.nparams with
          | true => argsAK 0 args .nil fun tm => match evC G fu c.body false (envE kn ext tab tabI tabC tabO fu d) ⟨tm, σ, nx, c.ntmps⟩ with
            | some r => retIE G c.res r
            | none => none
          | false => none)
        | none => none,
    fun g => match tabI g with
      | some c => some fun b h args σ nx => (match args.length == c.nparams with
        | true => argsAK 0 args .nil fun tm => match evC G fu c.body false ⟨(envE kn ext tab tabI tabC tabO fu d).inl, (envE kn ext tab tabI tabC tabO fu d).itr, some (b, h), (envE kn ext tab tabI tabC tabO fu d).call⟩ ⟨T.set tdepth tm markT (.mark 0), σ, nx, c.ntmps⟩ with
          | some r => retME r
          | none => none
        | false => none)
      | none => none, none,
    fun g ps => match kn g ps with
      | some r => some r
      | none => match tabC g with
      | some c => (match ps.length == c.nparams with
        | true => argsK 0 ps .nil fun tm => match evC G fu c.body true (envE kn ext tab tabI tabC tabO fu d) ⟨tm, [], 0, c.ntmps⟩ with
          | some r => (match retPE G c.res r with | some p => some ([], p) | none => none)
          | none => none
        | false => none)
      | none => match tabO g with
        | some c => (match ps.length == c.nparams with
          | true => argsK 0 ps .nil fun tm => match evC G fu c.body true (envE kn ext tab tabI tabC tabO fu d) ⟨tm, [], 0, c.ntmps⟩ with
            | some r => retOE G c.res r
            | none => none
          | false => none)
        | none => none⟩

end

/-! ### A run's result holds -/
section
variable {P : Program} {G : Gl}

def YLink (hE : RunY) (h : YldF) : Prop := ∀ args σ nx v σ' nx' pd (K : AV → Store → Nat → Nat → Prop), hE args σ nx = some (v, σ', nx', pd) → K v σ' nx' pd → h args σ nx K
def ILink (hE : RunI) (h : List AV → Store → Nat → (AV → Store → Nat → Prop) → Prop) : Prop := ∀ args σ nx v σ' nx' (K : AV → Store → Nat → Prop), hE args σ nx = some (v, σ', nx') → K v σ' nx' → h args σ nx K

structure EnvLink (P : Program) (G : Gl) (EE : EnvE) (E : Env) : Prop where
  inl : ∀ g hE, EE.inl g = some hE → ∃ h, E.inl g = some h ∧ ILink hE h
  noInl : ∀ g, EE.inl g = none → E.inl g = none
  itr : ∀ g it, EE.itr g = some it → ∃ it', E.itr g = some it' ∧ ∀ b hE h, YLink hE h → ILink (it b hE) (it' b h)
  yld : ∀ b hE, EE.yld = some (b, hE) → ∃ h, E.yld = some (b, h) ∧ YLink hE h
  call : ∀ g ps own r, EE.call g ps = some (own, r) → OkC P G g ps own r

theorem opE_sound {β : Type} {C : Nat → List PV → Option (Own × PV)} (hC : ∀ g ps own r, C g ps = some (own, r) → OkC P G g ps own r) {r : RIns} {nm : Nat} {st : St} {K : St → Rec → Option β} {b : β} (h : opE G C r nm st K = some b) :
    ∃ st' rec, K st' rec = some b ∧ ∀ KP : St → Rec → Prop, KP st' rec → opW G (OkC P G) r nm st KP := by
  obtain ⟨tm, σ, nx, nt⟩ := st
  obtain ⟨dst, op, guard, pre⟩ := r
  unfold opE at h
  simp only [evE_eq] at h
  cases op with
  | call f args =>
    simp only at h
    split at h
    · rename_i g a b' hca
      split at h
      · rename_i p hp
        split at h
        · rename_i v c es rows _ _ _ _ hres heq
          cases heq
          simp only [forceN_eq, upAllK_eq, putE_eq] at h
          refine ⟨_, _, h, fun KP hKP => ?_⟩
          unfold opW
          simp only [hca, hp, hres, forceN_eq, upAllK_eq, putK_eq]
          exact hKP
        · cases h
      · rename_i hnp
        split at h
        · rename_i ps m hp
          split at h
          · rename_i own res _ _ _ _ hres heq
            cases heq
            simp only [sealAllK_eq, upAllK_eq, putE_eq] at h
            refine ⟨_, _, h, fun KP hKP => ?_⟩
            unfold opW
            simp only [hca, hnp, hp]
            refine ⟨own, res, hC _ _ _ _ hres, ?_⟩
            simp only [upAllK_eq, sealAllK_eq, putK_eq]
            exact hKP
          · cases h
        · cases h
    · cases h
  | _ =>
    simp only at h
    split at h
    · rename_i e he
      rw [stepE_eq] at he
      simp only [putE_eq] at h
      refine ⟨_, _, h, fun KP hKP => ?_⟩
      unfold opW
      simp only [he, upAllK_eq, putK_eq]
      exact hKP
    · cases h

theorem insE_sound {β : Type} {C : Nat → List PV → Option (Own × PV)} (hC : ∀ g ps own r, C g ps = some (own, r) → OkC P G g ps own r) {r : RIns} {nm : Nat} {st : St} {K : St → Rec → Option β} {b : β} (h : insE G C r nm st K = some b) :
    ∃ st' rec, K st' rec = some b ∧ ∀ KP : St → Rec → Prop, KP st' rec → insW G (OkC P G) r nm st KP := by
  unfold insE at h
  simp only [evE_eq] at h
  unfold insW
  cases hg : r.guard with
  | none => rw [hg] at h; exact opE_sound hC h
  | some tw =>
    obtain ⟨t, want⟩ := tw
    rw [hg] at h
    simp only at h ⊢
    split at h
    · rename_i x hx
      simp only [hx]
      cases x <;> cases want <;> simp only at h ⊢
      · exact opE_sound hC h
      · obtain ⟨tm, σ, nx, nt⟩ := st
        simp only [putE_eq] at h
        simp only [putK_eq]
        exact ⟨_, _, h, fun KP hKP => hKP⟩
      · obtain ⟨tm, σ, nx, nt⟩ := st
        simp only [putE_eq] at h
        simp only [putK_eq]
        exact ⟨_, _, h, fun KP hKP => hKP⟩
      · exact opE_sound hC h
    · rename_i hx
      simp only [hx]
      obtain ⟨tm, σ, nx, nt⟩ := st
      simp only [putE_eq] at h
      simp only [putK_eq]
      exact ⟨_, _, h, fun KP hKP => hKP⟩
    · cases h

theorem quiet_clash {a b : Rec} (h : quietR a = true) : a.clash b = false ∧ b.clash a = false := by
  obtain ⟨rd, sl, wr, pre, ins⟩ := a
  unfold quietR at h
  split at h
  · rename_i h1 h2 h3 h4
    simp only at h1 h2 h3 h4
    subst h1; subst h2; subst h3; subst h4
    have m1 : ∀ l : List Nat, meets l [] = false := fun l => by simp [meets]
    have m2 : ∀ l : List Nat, meets [] l = false := fun l => rfl
    refine ⟨?_, ?_⟩
    · simp only [Rec.clash, m2, Rec.insMeets, Bool.or_false, Bool.false_or]
      cases hb : b.ins with
      | none => rfl
      | some x => rfl
    · simp only [Rec.clash, m1, Rec.insMeets, Bool.or_false, Bool.false_or]
      cases hb : b.ins with
      | none => rfl
      | some x => rfl
  · cases h

/-- Whatever two operations clash stand in a fixed order. -/
def Apart (recs : List Rec) : Prop := ∀ (i j : Nat) (x r : Rec), i < j → recs[i]? = some x → recs[j]? = some r → x.clash r = true → r.pre.testBit i = true

theorem compatOne_mk {r : Rec} : ∀ (l : List Rec) (i : Nat), (∀ k x, l[k]? = some x → x.clash r = true → r.pre.testBit (i + k) = true) → compatOne r i l = true
  | [], _, _ => rfl
  | y :: l, i, h => by
    simp only [compatOne, Bool.and_eq_true, Bool.or_eq_true, Bool.not_eq_true']
    refine ⟨?_, compatOne_mk l (i + 1) fun k x hx hc => by have := h (k + 1) x (by simpa using hx) hc; rwa [show i + 1 + k = i + (k + 1) by omega]⟩
    cases hc : y.clash r with
    | false => exact .inl rfl
    | true => exact .inr (h 0 y rfl hc)

theorem compat_mk : ∀ (l done : List Rec), Apart (done ++ l) → compat done l = true
  | [], _, _ => rfl
  | r :: l, done, h => by
    simp only [compat, Bool.and_eq_true]
    refine ⟨compatOne_mk done 0 fun k x hx hc => ?_, compat_mk l _ (by simpa using h)⟩
    have hk := (List.getElem?_eq_some_iff.1 hx).1
    have := h k done.length x r hk (by rw [List.getElem?_append_left hk]; exact hx) (by simp) hc
    simpa using this

theorem compatR_spec {r : Rec} : ∀ (k : Nat) (acc : List Rec), compatR r k acc = true → acc.length ≤ k ∧ ∀ i x, acc[i]? = some x → x.clash r = true → r.pre.testBit (k - 1 - i) = true
  | k, [], _ => ⟨Nat.zero_le _, fun i x h => by simp at h⟩
  | 0, _ :: _, h => by simp [compatR] at h
  | k + 1, y :: acc, h => by
    simp only [compatR, Bool.and_eq_true, Bool.or_eq_true, Bool.not_eq_true'] at h
    obtain ⟨h1, h2⟩ := compatR_spec k acc h.2
    refine ⟨by simp; omega, fun i x hx hc => ?_⟩
    cases i with
    | zero =>
      simp at hx; subst hx
      rcases h.1 with hq | hq | hq
      · rw [(quiet_clash hq).1] at hc; cases hc
      · rw [hq] at hc; cases hc
      · simpa using hq
    | succ i =>
      have := h2 i x (by simpa using hx) hc
      rwa [show k + 1 - 1 - (i + 1) = k - 1 - i by omega]

theorem Apart.push {acc : List Rec} {r : Rec} (h : Apart acc.reverse) (hr : (quietR r || compatR r acc.length acc) = true) : Apart (r :: acc).reverse := by
  intro i j x y hij hx hy hc
  rw [List.reverse_cons] at hx hy
  have hj := (List.getElem?_eq_some_iff.1 hy).1
  simp only [List.length_append, List.length_reverse, List.length_cons, List.length_nil] at hj
  by_cases e : j = acc.length
  · subst e
    rw [List.getElem?_append_right (by simp)] at hy
    simp at hy; subst hy
    rw [List.getElem?_append_left (by simpa using hij)] at hx
    rw [Bool.or_eq_true] at hr
    rcases hr with hq | hq
    · rw [(quiet_clash hq).2] at hc; cases hc
    · obtain ⟨_, h2⟩ := compatR_spec _ _ hq
      rw [List.getElem?_reverse hij] at hx
      have := h2 _ x hx hc
      rwa [show acc.length - 1 - (acc.length - 1 - i) = i by omega] at this
  · rw [List.getElem?_append_left (by simp; omega)] at hx hy
    exact h i j x y hij hx hy hc

theorem opsE_sound {β : Type} {C : Nat → List PV → Option (Own × PV)} (hC : ∀ g ps own r, C g ps = some (own, r) → OkC P G g ps own r) {b : β} : ∀ (l : List RIns) (nm : Nat) (acc : List Rec) (st : St) (K : St → Option β), Apart acc.reverse → opsE G C l nm acc.length acc st K = some b →
    ∃ st', K st' = some b ∧ ∀ KP : St → Prop, KP st' → opsW G (OkC P G) true l nm acc.reverse st KP
  | [], nm, acc, st, K, ha, h => by
    simp only [opsE] at h
    exact ⟨st, h, fun KP hKP => by simp only [opsW, compat_mk acc.reverse [] (by simpa using ha)]; exact hKP⟩
  | r :: l, nm, acc, st, K, ha, h => by
    simp only [opsE, forceN_eq] at h
    obtain ⟨st₁, rec, h1, h2⟩ := insE_sound hC h
    split at h1
    · rename_i hr
      obtain ⟨st₂, h3, h4⟩ := opsE_sound hC l _ (rec :: acc) _ _ (ha.push hr) (by simpa using h1)
      exact ⟨st₂, h3, fun KP hKP => by simp only [opsW, forceN_eq]; exact h2 _ (by have := h4 KP hKP; simpa using this)⟩
    · cases h1

theorem insSE_sound {β : Type} {EE : EnvE} {E : Env} (hL : EnvLink P G EE E) {r : RIns} {nm : Nat} {st : St} {K : St → Option β} {b : β} (h : insSE G EE r nm st K = some b) :
    ∃ st', K st' = some b ∧ ∀ KP : St → Prop, KP st' → insS G (OkC P G) E r nm st KP := by
  have plain : insE G EE.call r nm st (fun st' _ => K st') = some b → ∃ st', K st' = some b ∧ ∀ KP : St → Prop, KP st' → insW G (OkC P G) r nm st (fun st' _ => KP st') := fun h => by
    obtain ⟨st', rec, h1, h2⟩ := insE_sound hL.call h
    exact ⟨st', h1, fun KP hKP => h2 _ hKP⟩
  unfold insSE at h
  simp only [evE_eq] at h
  unfold insS
  split at h
  · rename_i f args hop
    simp only [hop]
    split at h
    · rename_i y hy
      simp only [hy]
      split at h
      · rename_i b' hE hEy hgd
        split at h
        · rename_i hbb
          obtain ⟨hh, hhy, hlink⟩ := hL.yld _ _ hEy
          obtain ⟨tm, σ, nx, nt⟩ := st
          simp only [callYE] at h
          split at h
          · rename_i hmk
            split at h
            · rename_i v σ' nx' pd hrun
              simp only [forceN_eq, putE_eq] at h
              refine ⟨_, h, fun KP hKP => ?_⟩
              simp only [hhy, hgd, hbb, callY, hmk]
              refine hlink _ _ _ _ _ _ _ _ hrun ?_
              simp only [forceN_eq, setK_eq, putK_eq]
              exact hKP
            · cases h
          · cases h
        · cases h
      · cases h
    · rename_i hne
      split at h
      · rename_i g a b' hca
        split at h
        · rename_i hE hEi
          obtain ⟨hh, hhi, hlink⟩ := hL.inl _ _ hEi
          have inlined : callSE hE (a ++ args.map (st.ev G) ++ b') r.dst st K = some b → ∃ st', K st' = some b ∧ ∀ KP : St → Prop, KP st' → callS hh (a ++ args.map (st.ev G) ++ b') r.dst st KP := by
            intro h
            obtain ⟨tm, σ, nx, nt⟩ := st
            simp only [callSE] at h
            split at h
            · rename_i v σ' nx' hrun
              simp only [putE_eq] at h
              refine ⟨_, h, fun KP hKP => ?_⟩
              simp only [callS]
              refine hlink _ _ _ _ _ _ _ hrun ?_
              simp only [putK_eq]
              exact hKP
            · cases h
          split at h
          · rename_i hgd
            obtain ⟨st', h1, h2⟩ := inlined h
            refine ⟨st', h1, fun KP hKP => ?_⟩
            split
            · rename_i y hy; exact absurd hy (hne y)
            · simp only [hca, hhi, hgd]
              exact h2 KP hKP
          · rename_i t want hgd
            split at h
            · rename_i hon
              obtain ⟨st', h1, h2⟩ := inlined h
              refine ⟨st', h1, fun KP hKP => ?_⟩
              split
              · rename_i y hy; exact absurd hy (hne y)
              · simp only [hca, hhi, hgd, hon]
                exact h2 KP hKP
            · rename_i hon
              obtain ⟨st', h1, h2⟩ := plain h
              refine ⟨st', h1, fun KP hKP => ?_⟩
              split
              · rename_i y hy; exact absurd hy (hne y)
              · simp only [hca, hhi, hgd, hon]
                exact h2 KP hKP
        · rename_i hEi
          obtain ⟨st', h1, h2⟩ := plain h
          refine ⟨st', h1, fun KP hKP => ?_⟩
          split
          · rename_i y hy; exact absurd hy (hne y)
          · simp only [hca, hL.noInl _ hEi]
            exact h2 KP hKP
      · rename_i hca
        obtain ⟨st', h1, h2⟩ := plain h
        refine ⟨st', h1, fun KP hKP => ?_⟩
        split
        · rename_i y hy; exact absurd hy (hne y)
        · simp only [hca]
          exact h2 KP hKP
  · rename_i hno
    obtain ⟨st', h1, h2⟩ := plain h
    refine ⟨st', h1, fun KP hKP => ?_⟩
    split
    · rename_i f args hop; exact absurd hop (hno f args)
    · exact h2 KP hKP

theorem opsSE_sound {β : Type} {EE : EnvE} {E : Env} (hL : EnvLink P G EE E) {b : β} : ∀ (l : List RIns) (nm : Nat) (st : St) (K : St → Option β), opsSE G EE l nm st K = some b →
    ∃ st', K st' = some b ∧ ∀ KP : St → Prop, KP st' → opsS G (OkC P G) E l nm st KP
  | [], nm, st, K, h => ⟨st, h, fun KP hKP => hKP⟩
  | r :: l, nm, st, K, h => by
    simp only [opsSE, forceN_eq, insQ_eq] at h
    obtain ⟨st₁, h1, h2⟩ := insSE_sound hL h
    obtain ⟨st₂, h3, h4⟩ := opsSE_sound hL l _ _ _ h1
    exact ⟨st₂, h3, fun KP hKP => by simp only [opsS, forceN_eq]; exact h2 _ (h4 KP hKP)⟩

theorem evC_sound {fu : Nat} : ∀ (rc : RC) (nrm : Bool) (EE : EnvE) (E : Env), EnvLink P G EE E → ∀ (st : St) (e : Ex) (st' : St), evC G fu rc nrm EE st = some (e, st') → ∀ Q : Ex → St → Prop, Q e st' → aw G (OkC P G) rc nrm E Q st := by
  intro rc
  induction rc with
  | skip => intro nrm EE E hL st e st' h Q hQ; simp only [evC] at h; cases h; exact hQ
  | reg ops draw =>
    intro nrm EE E hL st e st' h Q hQ
    obtain ⟨tm, σ, nx, nt⟩ := st
    simp only [evC, forceN_eq] at h
    simp only [aw, forceN_eq]
    cases draw with
    | true =>
      obtain ⟨st₁, h1, h2⟩ := opsE_sound hL.call ops nx [] _ _ (fun i j x r _ hx => by simp at hx) h
      cases h1
      exact h2 _ hQ
    | false =>
      obtain ⟨st₁, h1, h2⟩ := opsSE_sound hL _ _ _ _ h
      cases h1
      exact h2 _ hQ
  | seq a b iha ihb =>
    intro nrm EE E hL st e st' h Q hQ
    simp only [evC] at h
    simp only [aw]
    split at h
    · rename_i s₁ hs₁
      exact iha nrm EE E hL st _ _ hs₁ _ (ihb nrm EE E hL s₁ e st' h Q hQ)
    · rename_i hne
      refine iha nrm EE E hL st e st' h _ ?_
      cases e with
      | normal => exact absurd h (hne st')
      | exit i => exact hQ
      | ret => exact hQ
  | cond c a b iha ihb =>
    intro nrm EE E hL st e st' h Q hQ
    simp only [evC, evE_eq] at h
    simp only [aw, condW]
    split at h
    · rename_i x hx
      rw [hx]
      cases x
      · exact ihb nrm EE E hL st e st' h Q hQ
      · exact iha nrm EE E hL st e st' h Q hQ
    · cases h
  | block id b ih =>
    intro nrm EE E hL st e st' h Q hQ
    simp only [evC] at h
    simp only [aw]
    split at h
    · rename_i i s₁ hs₁
      refine ih nrm EE E hL st _ _ hs₁ _ ?_
      simp only [Ex.inBlock]
      split at h <;> cases h
      · rename_i hi; simp only [hi]; exact hQ
      · rename_i hi; simp only [hi]; exact hQ
    · rename_i hne
      refine ih nrm EE E hL st e st' h _ ?_
      cases e with
      | normal => exact hQ
      | exit i => exact absurd h (hne i st')
      | ret => exact hQ
  | loop live b ih =>
    intro nrm EE E hL st e st' h Q hQ
    simp only [evC] at h
    simp only [aw]
    intro X hX _
    have gen : ∀ (n : Nat) (s : St), loopE live nrm (fun s => evC G fu b nrm EE s) n s = some (e, st') → X s := by
      intro n
      induction n with
      | zero => intro s h; simp [loopE] at h
      | succ n ihn =>
        intro s h
        refine hX s ?_
        simp only [loopE] at h
        cases nrm with
        | true =>
          simp only [normK_eq] at h ⊢
          split at h
          · rename_i s₁ hs₁
            exact ih true EE E hL _ _ _ hs₁ _ (ihn s₁ h)
          · rename_i hne
            refine ih true EE E hL _ _ _ h _ ?_
            cases e with
            | normal => exact absurd h (hne st')
            | exit i => exact hQ
            | ret => exact hQ
        | false =>
          simp only at h ⊢
          split at h
          · rename_i s₁ hs₁
            exact ih false EE E hL _ _ _ hs₁ _ (ihn s₁ h)
          · rename_i hne
            refine ih false EE E hL _ _ _ h _ ?_
            cases e with
            | normal => exact absurd h (hne st')
            | exit i => exact hQ
            | ret => exact hQ
    exact gen _ _ h
  | rng f ps a b iha ihb =>
    intro nrm EE E hL st e st' h Q hQ
    obtain ⟨tm, σ, nx, nt⟩ := st
    simp only [evC, evE_eq] at h
    simp only [aw]
    split at h
    · rename_i g xs ys hca
      simp only [hca]
      split at h
      · rename_i it hit
        obtain ⟨it', hit', hlink⟩ := hL.itr _ _ hit
        simp only [hit', forceN_eq] at h ⊢
        split at h
        · rename_i r hr
          obtain ⟨v, σ', nx'⟩ := r
          have hL' : EnvLink P G ⟨EE.inl, fun _ => none, none, EE.call⟩ ⟨E.inl, fun _ => none, none, none⟩ := ⟨hL.inl, hL.noInl, (fun _ _ h => by cases h), (fun _ _ h => by cases h), hL.call⟩
          refine hlink _ _ _ ?_ _ _ _ _ _ _ _ hr ?_
          · intro args σ₁ nx₁ v σ₂ nx₂ pd K hrun hK
            dsimp only at hrun ⊢
            split at hrun
            · rename_i hlen
              simp only [hlen]
              rw [setPs_eq] at hrun ⊢
              split at hrun
              · rename_i s₁ hs₁
                refine iha false _ _ hL' _ _ _ hs₁ _ ?_
                simp only [Ex.then]
                split at hrun
                · rename_i e₂ s₂ hs₂
                  refine ihb false _ _ hL' _ _ _ hs₂ _ ?_
                  obtain ⟨tm₂, σ₃, nx₃, nt₃⟩ := s₂
                  cases e₂ <;> simp only [endE] at hrun <;> cases hrun <;> exact hK
                · cases hrun
              · cases hrun
            · cases hrun
          · unfold jumpE at h
            unfold jumpW
            split at h
            · rename_i heq; cases heq; cases h; exact hQ
            · rename_i heq; cases heq; cases h; exact hQ
            · rename_i heq; cases heq; cases h; exact hQ
            · cases h
        · cases h
      · cases h
    · cases h
  | exit id => intro nrm EE E hL st e st' h Q hQ; simp only [evC] at h; cases h; exact hQ
  | scope b ih => intro nrm EE E hL st e st' h Q hQ; simp only [evC] at h; exact ih nrm EE E hL st e st' h Q hQ
  | ret => intro nrm EE E hL st e st' h Q hQ; simp only [evC] at h; cases h; exact hQ

theorem envE_link (hm : P.follows .mixedOrders = true) {kn : Nat → List PV → Option (Own × PV)} (hkn : ∀ g ps own r, kn g ps = some (own, r) → OkC P G g ps own r) {ext : Nat → Option RunI} (hext : InlOk P G fun g => (ext g).map extH) {tab tabI tabC tabO : Nat → Option RFn} (htab : ∀ g c, tab g = some c → chkFn P g c = true) (htabI : ∀ g c, tabI g = some c → chkItr P g c = true) (htabC : ∀ g c, tabC g = some c → chkFn P g c = true) (htabO : ∀ g c, tabO g = some c → chkFn P g c = true) {fu : Nat} :
    ∀ d, EnvLink P G (envE G kn ext tab tabI tabC tabO fu d) (envD G (OkC P G) ext tab tabI d)
  | 0 => ⟨(fun _ _ h => by cases h), fun _ _ => rfl, (fun _ _ h => by cases h), (fun _ _ h => by cases h), (fun _ _ _ _ h => by cases h)⟩
  | d + 1 => by
    have ih := envE_link hm hkn hext htab htabI htabC htabO (fu := fu) d
    refine ⟨fun g hE h => ?_, fun g h => ?_, fun g it h => ?_, (fun _ _ h => by cases h), fun g ps own r h => ?_⟩
    · simp only [envE] at h
      simp only [envD]
      cases hx : ext g with
      | some r =>
        rw [hx] at h
        simp only at h
        cases h
        exact ⟨_, rfl, fun args σ nx v σ' nx' K hr hK => by simp only [extH, hr]; exact hK⟩
      | none =>
        rw [hx] at h
        simp only at h ⊢
        split at h
        · rename_i c hc
          cases h
          rw [hc]
          refine ⟨_, rfl, fun args σ nx v σ' nx' K hr hK => ?_⟩
          dsimp only at hr ⊢
          split at hr
          · rename_i hlen
            simp only [hlen]
            rw [argsAK_eq] at hr ⊢
            split at hr
            · rename_i r hr'
              obtain ⟨e, tm, σ₁, nx₁, nt⟩ := r
              have hL0 : EnvLink P G (envE G kn ext tab tabI tabC tabO fu d) ⟨(envD G (OkC P G) ext tab tabI d).inl, (envD G (OkC P G) ext tab tabI d).itr, none, some nx⟩ :=
                ⟨ih.inl, ih.noInl, ih.itr, fun b h e => by
                  obtain ⟨_, e', _⟩ := ih.yld b h e
                  cases d <;> simp [envD] at e', ih.call⟩
              refine evC_sound _ _ _ _ hL0 _ _ _ hr' _ ?_
              cases e with
              | exit i => simp [retIE] at hr
              | _ =>
                simp only [retIE] at hr
                simp only [retI]
                split at hr
                · rename_i vs hvs
                  simp only [hvs, forceA_eq] at hr ⊢
                  cases hr
                  exact hK
                · cases hr
            · cases hr
          · cases hr
        · cases h
    · simp only [envE] at h
      simp only [envD]
      cases hx : ext g with
      | some r => rw [hx] at h; cases h
      | none =>
        rw [hx] at h
        simp only at h ⊢
        split at h
        · cases h
        · rename_i hc; rw [hc]
    · simp only [envE] at h
      simp only [envD]
      split at h
      · rename_i c hc
        cases h
        rw [hc]
        refine ⟨_, rfl, fun b hE hh hY args σ nx v σ' nx' K hr hK => ?_⟩
        dsimp only at hr ⊢
        split at hr
        · rename_i hlen
          simp only [hlen]
          rw [argsAK_eq] at hr ⊢
          rw [setK_eq]
          split at hr
          · rename_i r hr'
            obtain ⟨e, tm, σ₁, nx₁, nt⟩ := r
            have hL' : EnvLink P G ⟨(envE G kn ext tab tabI tabC tabO fu d).inl, (envE G kn ext tab tabI tabC tabO fu d).itr, some (b, hE), (envE G kn ext tab tabI tabC tabO fu d).call⟩ ⟨(envD G (OkC P G) ext tab tabI d).inl, (envD G (OkC P G) ext tab tabI d).itr, some (b, hh), some nx⟩ :=
              ⟨ih.inl, ih.noInl, ih.itr, fun b' h' e => by cases e; exact ⟨hh, rfl, hY⟩, ih.call⟩
            refine evC_sound _ _ _ _ hL' _ _ _ hr' _ ?_
            cases e with
            | exit i => simp [retME] at hr
            | _ =>
              simp only [retME, forceA_eq] at hr
              simp only [retM, forceA_eq]
              cases hr
              exact hK
          · cases hr
        · cases hr
      · cases h
    · simp only [envE] at h
      cases hk : kn g ps with
      | some p0 => rw [hk] at h; simp only at h; cases h; exact hkn g ps _ _ hk
      | none =>
      rw [hk] at h
      simp only at h
      split at h
      · rename_i c hc
        split at h
        · rename_i hlen
          rw [beq_iff_eq] at hlen
          rw [argsK_eq] at h
          split at h
          · rename_i r' hr'
            obtain ⟨e, st⟩ := r'
            split at h
            · rename_i p hp
              cases h
              refine ok_of_fnW (c := c) hm (htabC g c hc) hext htab htabI (d := d) hlen ?_
              simp only [fnW, argsK_eq]
              refine evC_sound _ _ _ _ ih _ _ _ hr' _ ?_
              cases e with
              | exit i => simp [retPE] at hp
              | _ =>
                simp only [retPE] at hp
                simp only [retP]
                split at hp
                · rename_i vs hvs
                  simp only [hvs]
                  split at hp
                  · rename_i p' m hp'
                    simp only [hp']
                    cases hp
                    rfl
                  · cases hp
                · cases hp
            · cases h
          · cases h
        · cases h
      · split at h
        · rename_i c hc
          split at h
          · rename_i hlen
            rw [beq_iff_eq] at hlen
            rw [argsK_eq] at h
            split at h
            · rename_i r' hr'
              obtain ⟨e, st⟩ := r'
              cases e with
              | exit i => simp [retOE] at h
              | _ =>
                simp only [retOE] at h
                split at h
                · rename_i b n hvs
                  split at h
                  · rename_i es rows m hf
                    split at h
                    · rename_i hn
                      rw [beq_iff_eq] at hn
                      subst hn
                      cases h
                      refine ok_of_fnO (c := c) hm (htabO g c hc) hext htab htabI (d := d) hlen ?_
                      simp only [fnO, argsK_eq]
                      exact evC_sound _ _ _ _ ih _ _ _ hr' _ ⟨b, m, hvs, hf⟩
                    · cases h
                  · cases h
                · rename_i b n kd i hvs
                  split at h
                  · rename_i es rows m hf
                    split at h
                    · rename_i hn
                      rw [beq_iff_eq] at hn
                      subst hn
                      cases h
                      refine ok_of_fnO2 (c := c) hm (htabO g c hc) hext htab htabI (d := d) hlen ?_
                      simp only [fnO2, argsK_eq]
                      exact evC_sound _ _ _ _ ih _ _ _ hr' _ ⟨b, m, hvs, hf⟩
                    · cases h
                  · cases h
                · cases h
            · cases h
          · cases h
        · cases h

/-- A run's result is a contract. -/
theorem ok_of_run (hm : P.follows .mixedOrders = true) {kn : Nat → List PV → Option (Own × PV)} (hkn : ∀ g ps own r, kn g ps = some (own, r) → OkC P G g ps own r) {ext : Nat → Option RunI} (hext : InlOk P G fun g => (ext g).map extH) {tab tabI tabC tabO : Nat → Option RFn} (htab : ∀ g c, tab g = some c → chkFn P g c = true) (htabI : ∀ g c, tabI g = some c → chkItr P g c = true) (htabC : ∀ g c, tabC g = some c → chkFn P g c = true) (htabO : ∀ g c, tabO g = some c → chkFn P g c = true) {fu d g : Nat} {ps : List PV} {own : Own} {r : PV}
    (h : (envE G kn ext tab tabI tabC tabO fu d).call g ps = some (own, r)) : OkC P G g ps own r := (envE_link hm hkn hext htab htabI htabC htabO d).call g ps own r h
end
end Go.Ab

/- Tables of functions. Under: nothing. -/
namespace Go.Ab

inductive TF where
  | nil
  | leaf (g : Nat) (c : RFn)
  | node (l r : TF)

def TF.get (n0 : Nat) : TF → Nat → Option RFn
  | .leaf g c, _ => match g == n0 with | true => some c | false => none
  | .node l r, n => match n % 2 with
    | 0 => TF.get n0 l (n / 2)
    | _ => TF.get n0 r (n / 2)
  | .nil, _ => none

def TF.fn (t : TF) (n : Nat) : Option RFn := TF.get n t n

def TF.all (p : Nat → RFn → Bool) : TF → Bool
  | .nil => true
  | .leaf g c => p g c
  | .node l r => TF.all p l && TF.all p r

theorem TF.get_all {p : Nat → RFn → Bool} {n0 : Nat} {c : RFn} : ∀ (t : TF) (n : Nat), t.all p = true → TF.get n0 t n = some c → p n0 c = true
  | .nil, n, _, h => by simp [TF.get] at h
  | .leaf g c', n, ha, h => by
    simp only [TF.get] at h
    split at h
    · rename_i hg
      cases h
      rw [beq_iff_eq] at hg
      subst hg
      exact ha
    · cases h
  | .node l r, n, ha, h => by
    simp only [TF.all, Bool.and_eq_true] at ha
    simp only [TF.get] at h
    split at h
    · exact TF.get_all l _ ha.1 h
    · exact TF.get_all r _ ha.2 h

theorem TF.fn_all {p : Nat → RFn → Bool} {t : TF} (ha : t.all p = true) (g : Nat) (c : RFn) (h : t.fn g = some c) : p g c = true := TF.get_all t g ha h

end Go.Ab

/- Clones of slices, said outright. Under: nothing. -/
namespace Go.Ab
open Go.RowKit

/-- The one function's part of 'InlOk'. -/
def InlOk1 (P : Program) (G : Gl) (g : Nat) (h : List AV → Store → Nat → (AV → Store → Nat → Prop) → Prop) : Prop :=
  ∀ (args : List AV) (σ : Store) (nx : Nat) (K : AV → Store → Nat → Prop), h args σ nx K →
    ∀ (B : Nat) (w0 : World) (I0 : Imm) (gs : Value → AV → Prop) (w : World) (I : Imm) (ι : Nat → Option Nat) (D : Nat → Prop) (vs : Array Value), Core B w0 I0 w I ι σ D → (∀ b, D b → b < nx) → GlobOk P G w I →
      vs.size = args.length → (∀ (j : Nat) (x : Value) (q : AV), vs[j]? = some x → args[j]? = some q → RepA w I ι σ D x q) → (∀ x a, gs x a → RepA w I ι σ D x a) →
      (∀ w₁, (callFunc g vs).run P w₁ = .ok (.enter g vs) w₁) ∧ CallsIn Fence.wide 0 P g vs w (InlPost P G B w0 I0 gs D w nx K)

theorem upS_upS : ∀ (s : Store) (b : Nat) (x y : Option SObj), upS (upS s b x) b y = upS s b y
  | [], b, x, y => by simp [upS]
  | (k, o) :: s, b, x, y => by
    simp only [upS]
    cases hk : k == b with
    | true => simp [upS, hk]
    | false => simp only [upS, hk]; rw [upS_upS s]

def cloneC (es bytes : Nat) (zeros : List AV) : RFn := ⟨1, 8, [.tmp 2],
 .seq (.reg [⟨some 2, .mv (.c (.emp es)), none, 0⟩] false)
 (.seq (.seq (.reg [⟨some 3, .mv (.t 0), none, 0⟩,
   ⟨some 4, .isnil false (.t 3), none, 1⟩] false)
 (.cond (.t 4)
  (.seq (.reg [⟨some 2, .mv (.c (.emp es)), none, 0⟩] false)
  (.ret))
  (.skip)))
 (.seq (.reg [⟨some 5, .bsl es 0 zeros [], none, 0⟩,
   ⟨some 6, .mv (.t 0), none, 0⟩,
   ⟨some 7, .append es bytes (.t 5) (.t 6), none, 3⟩,
   ⟨some 2, .mv (.t 7), none, 7⟩] false)
 (.ret)))⟩

def cloneUp (nx es : Nat) (xs : List (List PV)) : List (Nat × Option SObj) := [(nx + 12, none), (nx + 20, some (.arr es xs false))]

def ownLt (a : AV) (nx : Nat) : Bool := match a with
  | .own b _ _ => Nat.blt b nx
  | _ => true

def cloneE (es bytes : Nat) : RunI := fun args σ nx => match args with
  | [a] => (match a.e with
    | .emp _ => some (.emp es, σ, nx + 16)
    | a' => match prowsOf σ es a with
      | some (xs, _) => if xs.length * bytes ≤ 2 ^ 40 ∧ ownLt a' nx = true then upAllK σ (cloneUp nx es xs) fun σ' => some (.own (nx + 20) 0 xs.length, σ', nx + 28) else none
      | none => none)
  | _ => none

theorem SimS.congr {B : Nat} {w : World} {I : Imm} {ι : Nat → Option Nat} {σ σ' : Store} {D : Nat → Prop} (hs : SimS B w I ι σ D) (he : ∀ b, find σ' b = find σ b) : SimS B w I ι σ' D ∧ Later w I ι σ D w I ι σ' D := by
  have hL : Later w I ι σ D w I ι σ' D := ⟨⟨fun _ _ _ hi hx => ⟨hx, hi⟩, fun _ h => h, fun b o' _ ho => by rw [he] at ho; exact ⟨o', ho, rfl, rfl, rfl⟩, fun _ c _ fz h => ⟨c, fz, h, rfl⟩, fun _ _ => rfl⟩, fun _ _ _ h => h⟩
  exact ⟨⟨hs.bnd, fun b o h' => hs.dom b o (by rw [← he]; exact h'), fun b b' o o' r h₁ h₂ => hs.inj b b' o o' r (by rw [← he]; exact h₁) (by rw [← he]; exact h₂),
    fun b o r h' => hs.ge b o r (by rw [← he]; exact h'), fun b o r k h' => hs.sep b o r k (by rw [← he]; exact h'),
    fun b o h' => (hs.obj b o (by rw [← he]; exact h')).mono hL rfl fun _ _ => rfl⟩, hL⟩

theorem opsS_step {G : Gl} {Ok : Nat → List PV → Own → PV → Prop} {E : Env} {r : RIns} {l : List RIns} {nm : Nat} {st : St} {K : St → Prop} (hg : r.guard = none) (hc : ∀ f args, r.op ≠ .call f args) {e : Eff} (he : step st.σ nm (st.ev G) r.op = some e)
    (h : opsS G Ok E l (nm + stride) (putW st r.dst e.v (upAll st.σ e.up)) K) : opsS G Ok E (r :: l) nm st K := by
  simp only [opsS, forceN_eq]
  unfold insS
  split
  · rename_i f args hop; exact absurd hop (hc f args)
  · unfold insW
    rw [hg]
    simp only
    unfold opW
    split
    · rename_i f args hop; exact absurd hop (hc f args)
    · obtain ⟨tm, σ, nx, nt⟩ := st
      simp only at he
      simp only [he, upAllK_eq, putK_eq]
      exact h

theorem opsS_nil {G : Gl} {Ok : Nat → List PV → Own → PV → Prop} {E : Env} {nm : Nat} {st : St} {K : St → Prop} : opsS G Ok E [] nm st K = K st := rfl

theorem get_set_ne {t : T} {n m : Nat} {v : AV} (hn : n < 1024) (hm : m < 1024) (h : m ≠ n) : (t.set tdepth n v).get tdepth m = t.get tdepth m := by
  rw [get_set, if_neg]
  have e1 : m % 2 ^ tdepth = m := Nat.mod_eq_of_lt hm
  have e2 : n % 2 ^ tdepth = n := Nat.mod_eq_of_lt hn
  rw [e1, e2]; exact h

theorem get_set_eq {t : T} {n : Nat} {v : AV} : (t.set tdepth n v).get tdepth n = v := by rw [get_set, if_pos rfl]

/-- The run of a clone, in whatever world. -/
theorem clone_run {P : Program} {G : Gl} {E : Env} {es bytes : Nat} {zeros : List AV} {a : AV} {σ : Store} {nx : Nat} {K : AV → Store → Nat → Prop} (h : extH (cloneE es bytes) [a] σ nx K) :
    aw G (OkC P G) (cloneC es bytes zeros).body false E
      (retI G [.tmp 2] fun av σ' nx' => K av σ' nx' ∨ (av = .emp es ∧ σ' = σ ∧ nx' = nx + 16 ∧ K (.own (nx + 20) 0 0) (upAll σ (cloneUp nx es [])) (nx + 28))) ⟨argsT 0 [a] .nil, σ, nx, 8⟩ := by
  let K' : AV → Store → Nat → Prop := fun av σ' nx' => K av σ' nx' ∨ (av = .emp es ∧ σ' = σ ∧ nx' = nx + 16 ∧ K (.own (nx + 20) 0 0) (upAll σ (cloneUp nx es [])) (nx + 28))
  have second : ∀ (xs : List (List PV)) (rd : List Nat) (tm : T), prowsOf σ es a = some (xs, rd) → (∀ b ∈ rd, b < nx) → xs.length * bytes ≤ 2 ^ 40 → K (.own (nx + 20) 0 xs.length) (upAll σ (cloneUp nx es xs)) (nx + 28) → tm.get tdepth 0 = a →
      aw G (OkC P G) (.seq (.reg [⟨some 5, .bsl es 0 zeros [], none, 0⟩, ⟨some 6, .mv (.t 0), none, 0⟩, ⟨some 7, .append es bytes (.t 5) (.t 6), none, 3⟩, ⟨some 2, .mv (.t 7), none, 7⟩] false) .ret) false E (retI G [.tmp 2] K') ⟨tm, σ, nx + 12, 8⟩ := by
    intro xs rd tm hp hrd hle hK h0
    have hp' : prowsOf (upS σ (nx + 12) (some (.arr es [] false))) es a = some (xs, rd) := prowsOf_frame hp fun b hb => by
      have := hrd b hb
      exact .of_eq (by rw [find_upS, if_neg (by omega)])
    simp only [aw, forceN_eq]
    refine opsS_step (e := { v := .own (nx + 12) 0 0, up := [(nx + 12, some (.arr es [] false))] }) rfl (by intro f args e; cases e) rfl ?_
    refine opsS_step (e := { v := a }) rfl (by intro f args e; cases e) (by simp only [step, Eff.of, St.ev, putW]; rw [get_set_ne (by decide) (by decide) (by decide), h0]) ?_
    refine opsS_step (e := { v := .own (nx + 20) 0 (0 + xs.length), rd := (nx + 12) :: rd, up := [(nx + 12, none), (nx + 20, some (.arr es ([] ++ xs) false))] }) rfl (by intro f args e; cases e) ?_ ?_
    · simp only [step, St.ev, putW, upAll]
      rw [get_set_ne (by decide) (by decide) (by decide), get_set_eq, get_set_eq]
      simp only [AV.e, find_upS, if_true, List.length_nil, and_self, hp', Nat.zero_add, if_pos hle]
      rfl
    refine opsS_step (e := { v := .own (nx + 20) 0 (0 + xs.length) }) rfl (by intro f args e; cases e) (by simp only [step, Eff.of, St.ev, putW]; rw [get_set_eq]) ?_
    simp only [opsS_nil, Ex.then, retI, resAs, resA, St.ev, putW, forceA_eq, resPV, upAll, get_set_eq, upS_upS]
    refine .inl ?_
    simp only [Nat.zero_add, List.nil_append]
    exact hK
  have start : ∀ (isn : AV) (rd : List Nat), (isn = .pv (.bool true) ∨ isn = .pv (.bool false) ∨ isn = .anyB) → (match a.e with
      | .emp _ => Eff.of (.pv (.bool (!false)))
      | .fsl _ rows => (match rows with | [] => Eff.of .anyB | _ :: _ => Eff.of (.pv (.bool false)))
      | .pv (.sl _ rows) => (match rows with | [] => Eff.of .anyB | _ :: _ => Eff.of (.pv (.bool false)))
      | .own b _ n => match find σ b with
        | some _ => (match n with | 0 => some { v := .anyB, rd := [b] } | _ + 1 => some { v := .pv (.bool false), rd := [b] })
        | none => none
      | _ => none) = some { v := isn, rd := rd } →
      (∀ tm : T, tm.get tdepth 0 = a → condW isn (aw G (OkC P G) (.seq (.reg [⟨some 2, .mv (.c (.emp es)), none, 0⟩] false) (.ret)) false E (retI G [.tmp 2] K') ⟨tm, σ, nx + 12, 8⟩)
        (aw G (OkC P G) (.seq (.reg [⟨some 5, .bsl es 0 zeros [], none, 0⟩, ⟨some 6, .mv (.t 0), none, 0⟩, ⟨some 7, .append es bytes (.t 5) (.t 6), none, 3⟩, ⟨some 2, .mv (.t 7), none, 7⟩] false) .ret) false E (retI G [.tmp 2] K') ⟨tm, σ, nx + 12, 8⟩)) →
      aw G (OkC P G) (cloneC es bytes zeros).body false E (retI G [.tmp 2] K') ⟨argsT 0 [a] .nil, σ, nx, 8⟩ := by
    intro isn rd his hisn hc
    have h0 : (argsT 0 [a] T.nil).get tdepth 0 = a := by simp only [argsT]; exact get_set_eq
    simp only [cloneC, aw, forceN_eq]
    refine opsS_step (e := { v := .emp es }) rfl (by intro f args e; cases e) rfl ?_
    simp only [opsS_nil, Ex.then, putW, upAll]
    refine opsS_step (e := { v := a }) rfl (by intro f args e; cases e) (by simp only [step, Eff.of, St.ev]; rw [get_set_ne (by decide) (by decide) (by decide), h0]) ?_
    refine opsS_step (e := { v := isn, rd := rd }) rfl (by intro f args e; cases e) (by simp only [step, St.ev, putW]; rw [get_set_eq]; exact hisn) ?_
    simp only [opsS_nil, Ex.then, putW, upAll, St.ev, get_set_eq]
    have := hc ((((argsT 0 [a] T.nil).set tdepth 2 (.emp es)).set tdepth 3 a).set tdepth 4 isn) (by rw [get_set_ne (by decide) (by decide) (by decide), get_set_ne (by decide) (by decide) (by decide), get_set_ne (by decide) (by decide) (by decide), h0])
    rcases his with rfl | rfl | rfl
    · exact this
    · exact this
    · exact this
  have nilB : ∀ (tm : T), K' (.emp es) σ (nx + 16) → aw G (OkC P G) (.seq (.reg [⟨some 2, .mv (.c (.emp es)), none, 0⟩] false) (.ret)) false E (retI G [.tmp 2] K') ⟨tm, σ, nx + 12, 8⟩ := by
    intro tm hK
    simp only [aw, forceN_eq]
    refine opsS_step (e := { v := .emp es }) rfl (by intro f args e; cases e) rfl ?_
    simp only [opsS_nil, Ex.then, retI, resAs, resA, St.ev, putW, forceA_eq, resPV, upAll, get_set_eq]
    exact hK
  -- what is not nil
  have rest : (match prowsOf σ es a with
      | some (xs, _) => if xs.length * bytes ≤ 2 ^ 40 ∧ ownLt a.e nx = true then upAllK σ (cloneUp nx es xs) fun σ' => some (AV.own (nx + 20) 0 xs.length, σ', nx + 28) else none
      | none => none) = cloneE es bytes [a] σ nx → (∀ e0, a.e ≠ .emp e0) → aw G (OkC P G) (cloneC es bytes zeros).body false E (retI G [.tmp 2] K') ⟨argsT 0 [a] .nil, σ, nx, 8⟩ := by
    intro heq hne
    simp only [extH, ← heq] at h
    cases hp : prowsOf σ es a with
    | none => rw [hp] at h; exact h.elim
    | some r =>
      obtain ⟨xs, rd⟩ := r
      rw [hp] at h
      simp only at h
      by_cases hc : xs.length * bytes ≤ 2 ^ 40 ∧ ownLt a.e nx = true
      · rw [if_pos hc] at h
        simp only [upAllK_eq] at h
        have hp' := hp
        unfold prowsOf at hp'
        have hrd : ∀ b ∈ rd, b < nx := by
          intro b hb
          split at hp'
          · cases hp'; cases hb
          · split at hp' <;> cases hp'; cases hb
          · split at hp' <;> cases hp'; cases hb
          · rename_i b' i n hae
            have hlt : b' < nx := by have := hc.2; rw [hae] at this; simpa [ownLt, Nat.blt_eq] using this
            split at hp'
            · split at hp' <;> cases hp'
              simp at hb; omega
            · cases hp'
          · cases hp'
        have go := fun tm h0 => second xs rd tm hp hrd hc.1 h h0
        have any : xs = [] → ∀ tm : T, tm.get tdepth 0 = a → condW .anyB (aw G (OkC P G) (.seq (.reg [⟨some 2, .mv (.c (.emp es)), none, 0⟩] false) (.ret)) false E (retI G [.tmp 2] K') ⟨tm, σ, nx + 12, 8⟩) (aw G (OkC P G) (.seq (.reg [⟨some 5, .bsl es 0 zeros [], none, 0⟩, ⟨some 6, .mv (.t 0), none, 0⟩, ⟨some 7, .append es bytes (.t 5) (.t 6), none, 3⟩, ⟨some 2, .mv (.t 7), none, 7⟩] false) .ret) false E (retI G [.tmp 2] K') ⟨tm, σ, nx + 12, 8⟩) := by
          intro hx tm h0
          subst hx
          exact ⟨nilB tm (.inr ⟨rfl, rfl, rfl, h⟩), go tm h0⟩
        split at hp'
        · rename_i e0 hae; exact absurd hae (hne e0)
        · rename_i e0 rows hae
          split at hp' <;> cases hp'
          cases xs with
          | nil => exact start .anyB [] (.inr (.inr rfl)) (by rw [hae]; rfl) (any rfl)
          | cons x xs => exact start (.pv (.bool false)) [] (.inr (.inl rfl)) (by rw [hae]; rfl) go
        · rename_i e0 rows hae
          split at hp' <;> cases hp'
          cases xs with
          | nil => exact start .anyB [] (.inr (.inr rfl)) (by rw [hae]; rfl) (any rfl)
          | cons x xs => exact start (.pv (.bool false)) [] (.inr (.inl rfl)) (by rw [hae]; rfl) go
        · rename_i b' i n hae
          split at hp'
          · rename_i e1 rows sl hf
            split at hp' <;> cases hp'
            cases n with
            | zero => exact start .anyB [b'] (.inr (.inr rfl)) (by rw [hae]; simp only [hf]) (any (by simp))
            | succ n => exact start (.pv (.bool false)) [b'] (.inr (.inl rfl)) (by rw [hae]; simp only [hf]) go
          · cases hp'
        · cases hp'
      · rw [if_neg hc] at h; exact h.elim
  cases hae : a.e with
  | emp e0 =>
    simp only [extH, cloneE] at h
    rw [hae] at h
    exact start (.pv (.bool true)) [] (.inl rfl) (by rw [hae]; rfl) fun tm h0 => nilB tm (.inl h)
  | _ => exact rest (by simp only [cloneE, hae]) (fun e0 he => by rw [hae] at he; cases he)

theorem clone_ok {P : Program} {G : Gl} (hm : P.follows .mixedOrders = true) {g es bytes : Nat} {zeros : List AV} (hk : chkFn P g (cloneC es bytes zeros) = true) : InlOk1 P G g (extH (cloneE es bytes)) := by
  intro args σ nx K h B w0 I0 gs w I ι D vs hc hD hgl hl ha hgs
  have hargs : ∃ a, args = [a] := by
    simp only [extH, cloneE] at h
    split at h
    · rename_i heq
      split at heq
      · exact ⟨_, rfl⟩
      · cases heq
    · exact h.elim
  obtain ⟨a, rfl⟩ := hargs
  have hin := (envD_ok (G := G) hm (ext := fun _ => none) (fun g h e => by cases e) (tab := fun g' => if g' = g then some (cloneC es bytes zeros) else none) (tabI := fun _ => none) (fun g' c e => by
    split at e
    · rename_i hg; cases e; subst hg; exact hk
    · cases e) (fun _ _ e => by cases e) 1).1 g _ (by simp only [envD, if_true]; rfl)
  have := hin [a] σ nx (fun av σ' nx' => K av σ' nx' ∨ (av = .emp es ∧ σ' = σ ∧ nx' = nx + 16 ∧ K (.own (nx + 20) 0 0) (upAll σ (cloneUp nx es [])) (nx + 28))) (by
    split
    · rw [argsAK_eq]; exact clone_run h
    · rename_i hn; simp [cloneC] at hn) B w0 I0 gs w I ι D vs hc hD hgl hl ha hgs
  refine ⟨this.1, CallsIn.mono this.2 fun e w' he => ?_⟩
  cases e with
  | returned v =>
    obtain ⟨av, σ', nx', I', ι', D', hK, hc', hle, hD', hrep, hgl', hgs', hst⟩ := he
    rcases hK with hK | ⟨rfl, rfl, rfl, hK⟩
    · exact ⟨av, σ', nx', I', ι', D', hK, hc', hle, hD', hrep, hgl', hgs', hst⟩
    · have hn20 : ¬ D' (nx + 20) := fun h => by
        rcases hD' _ h with h | h
        · have := hD _ h; omega
        · omega
      have h12 : find σ' (nx + 12) = none := by
        cases hf : find σ' (nx + 12) with
        | none => rfl
        | some o => have := hD _ (hc.sims.dom _ _ hf); omega
      obtain ⟨hS, hL⟩ := hc'.sims.empty (nm := nx + 20) (o := .arr es [] false) hn20 rfl rfl
      obtain ⟨hS', hL'⟩ := hS.congr (σ' := upAll σ' (cloneUp nx es [])) (fun b => by
        simp only [cloneUp, upAll, find_upS]
        by_cases e : b = nx + 20
        · simp [e]
        · by_cases e' : b = nx + 12
          · simp [e', h12]
          · simp [e, e'])
      have hLL := hL.trans hL'
      refine ⟨_, _, _, I', _, _, hK, ⟨hS', hc'.below, hc'.hB, hc'.ext, hc'.old⟩, by omega, fun b hb => ?_, ?_, hgl'.mono hLL.keeps, fun x a hx => (hgs' x a hx).mono hLL, hst⟩
      · rcases hb with hb | rfl
        · rcases hD' b hb with h | h
          · exact .inl h
          · exact .inr ⟨h.1, by omega⟩
        · exact .inr ⟨by omega, by omega⟩
      · cases hrep
        refine .own (.inr rfl) rfl fun o ho => ?_
        simp only [cloneUp, upAll, find_upS, if_true] at ho
        cases ho
        exact ⟨none, 0, rfl, by simp [SObj.len], ⟨Nat.le_refl _, Nat.le_refl _⟩, .inl ⟨rfl, rfl⟩⟩
  | panicked ch => exact he.elim
  | outgrown => exact he.elim
end Go.Ab

/- From what a statement reads of an argument to what it stands for. Under: nothing. -/
namespace Go.Ab
open Go.RowKit Go.ChangeShapes

inductive Ty where
  | int (k : IntKind)
  | bool
  | str
  | sl (cs : List Ty)

/-- A pure value of a type. -/
inductive Has : Ty → PV → Prop
  | bool (b : Bool) : Has .bool (.bool b)
  | int {k : IntKind} {n : Int} (h : (Lit.int k n).wf = true) : Has (.int k) (.int k n)
  | str {s : List UInt8} (h : s.length ≤ maxLen) : Has .str (.str s)
  | sl {cs : List Ty} {rows : List (List PV)} (hw : ∀ row ∈ rows, row.length = cs.length) (h : ∀ row ∈ rows, ∀ (j : Nat) (q : PV) (t : Ty), row[j]? = some q → cs[j]? = some t → Has t q) (hl : rows.length ≤ maxLen) : Has (.sl cs) (.sl cs.length rows)

/-- All that lies in the world. -/
def Iall (w : World) : Imm := fun a k => (w.cell? ⟨a, k, none⟩).isSome = true

theorem Iall_bnd (w : World) : ∀ a k, Iall w a k → a < w.heap.size := by
  intro a k h
  unfold Iall World.cell? at h
  cases hr : w.heap[a]? with
  | none => simp [hr] at h
  | some o => exact (Array.getElem?_eq_some_iff.1 hr).1

inductive RepL (w : World) : List Value → List PV → List Ty → Prop
  | nil : RepL w [] [] []
  | cons {c : Value} {q : PV} {t : Ty} {cs : List Value} {qs : List PV} {ts : List Ty} (h : RepP w (Iall w) c q) (ht : Has t q) (h1 : c.oneCell' = true) (hs : RepL w cs qs ts) : RepL w (c :: cs) (q :: qs) (t :: ts)

theorem RepL.len {w : World} {cs : List Value} {qs : List PV} {ts : List Ty} (h : RepL w cs qs ts) : cs.length = ts.length ∧ qs.length = ts.length := by
  induction h with
  | nil => exact ⟨rfl, rfl⟩
  | cons _ _ _ _ ih => exact ⟨by simp [ih.1], by simp [ih.2]⟩

theorem RepL.get {w : World} {cs : List Value} {qs : List PV} {ts : List Ty} (h : RepL w cs qs ts) : ∀ (j : Nat) (c : Value) (q : PV), cs[j]? = some c → qs[j]? = some q → RepP w (Iall w) c q ∧ c.oneCell' = true ∧ ∀ t, ts[j]? = some t → Has t q := by
  induction h with
  | nil => intro j c q hc; simp at hc
  | cons h ht h1 _ ih =>
    intro j c q hc hq
    cases j with
    | zero => simp at hc hq; subst hc; subst hq; exact ⟨h, h1, fun t e => by simp at e; subst e; exact ht⟩
    | succ j => exact ih j c q (by simpa using hc) (by simpa using hq)

theorem RepL.append {w : World} {cs cs' : List Value} {qs qs' : List PV} {ts ts' : List Ty} (h : RepL w cs qs ts) (h' : RepL w cs' qs' ts') : RepL w (cs ++ cs') (qs ++ qs') (ts ++ ts') := by
  induction h with
  | nil => exact h'
  | cons a b c _ ih => exact .cons a b c ih

def tyFields (P : Program) (g : TypeId → Option (List Ty)) : List Field → Nat → Option (List Ty)
  | [], _ => some []
  | f :: fs, off => match g f.type with
    | some ts => match f.offset == off && P.cellsOf f.type == ts.length with
      | true => (match tyFields P g fs (off + ts.length) with | some r => some (ts ++ r) | none => none)
      | false => none
    | none => none

def arrTy (ts : List Ty) : Nat → List Ty
  | 0 => []
  | k + 1 => ts ++ arrTy ts k
/-- The cells of a type. -/
def tyCells (P : Program) : Nat → TypeId → Option (List Ty)
  | 0, _ => none
  | n + 1, t => match P.underlying t with
    | some .bool => some [.bool]
    | some (.int k) => some [.int k]
    | some .string => some [.str]
    | some (.slice e) => (match tyCells P n e with
      | some [] => none
      | some (c :: cs) => (match P.cellsOf e == (c :: cs).length with | true => some [.sl (c :: cs)] | false => none)
      | none => none)
    | some (.struct fs) => (match tyFields P (tyCells P n) fs.toList 0 with
      | some ts => (match P.cellsOf t == ts.length with | true => some ts | false => none)
      | none => none)
    | some (.array k e) => (match tyCells P n e with
      | some ts => (match P.cellsOf e == ts.length && P.cellsOf t == k * ts.length with | true => some (arrTy ts k) | false => none)
      | none => none)
    | _ => none

theorem add_none {a : Addr} (h : a.spot = none) (n : Nat) : a.add n = ⟨a.block, a.off + n, none⟩ := by
  obtain ⟨b, o, s⟩ := a
  simp only at h
  subst h
  unfold Addr.add
  split
  · rename_i h0; subst h0; rfl
  · rfl

section
variable {H : Type} {enc : TypeId × Value → H} {P : Program} {w : World} {base : Nat} {spare : Nat → Bool} {held : Bool}

theorem fields_rep {g : TypeId → Option (List Ty)} {n : Nat} {cs : List Value} (hg : ∀ t ts cs x, g t = some ts → DataW.trod enc P w base spare held n t cs = some x → ∃ qs, RepL w cs qs ts) : ∀ (fs : List Field) (off : Nat) (ts : List Ty), tyFields P g fs off = some ts →
    (∀ (i : Nat) (f : Field), fs[i]? = some f → ∃ y, DataW.trod enc P w base spare held n f.type ((cs.drop f.offset).take (P.cellsOf f.type)) = some y) → cs.length = off + ts.length → ∃ qs, RepL w (cs.drop off) qs ts
  | [], off, ts, h, _, hl => by
    simp only [tyFields] at h; cases h
    have : cs.drop off = [] := List.drop_eq_nil_of_le (by simp at hl; omega)
    exact ⟨[], this ▸ .nil⟩
  | f :: fs, off, ts, h, hf, hl => by
    simp only [tyFields] at h
    split at h
    · rename_i ts0 hts0
      split at h
      · rename_i hc
        simp only [Bool.and_eq_true, beq_iff_eq] at hc
        split at h
        · rename_i r hr
          cases h
          obtain ⟨y, hy⟩ := hf 0 f rfl
          rw [hc.1, hc.2] at hy
          obtain ⟨qs0, h0⟩ := hg _ _ _ _ hts0 hy
          obtain ⟨qs1, h1⟩ := fields_rep hg fs (off + ts0.length) r hr (fun i f hi => hf (i + 1) f (by simpa using hi)) (by rw [hl]; simp; omega)
          refine ⟨qs0 ++ qs1, ?_⟩
          have e : cs.drop off = (cs.drop off).take ts0.length ++ cs.drop (off + ts0.length) := by
            rw [← List.drop_drop]; exact (List.take_append_drop _ _).symm
          rw [e]
          exact h0.append h1
        · cases h
      · cases h
    · cases h

theorem array_rep {n : Nat} {e : TypeId} {ts : List Ty} {cs : List Value} (hg : ∀ cs x, DataW.trod enc P w base spare held n e cs = some x → ∃ qs, RepL w cs qs ts) : ∀ (k off : Nat), (∀ i, i < k → ∃ y, DataW.trod enc P w base spare held n e ((cs.drop (off + i * ts.length)).take ts.length) = some y) → cs.length = off + k * ts.length → ∃ qs, RepL w (cs.drop off) qs (arrTy ts k)
  | 0, off, _, hl => by
    have : cs.drop off = [] := List.drop_eq_nil_of_le (by simp at hl; omega)
    exact ⟨[], this ▸ .nil⟩
  | k + 1, off, hf, hl => by
    obtain ⟨y, hy⟩ := hf 0 (by omega)
    simp only [Nat.zero_mul, Nat.add_zero] at hy
    obtain ⟨qs0, h0⟩ := hg _ _ hy
    obtain ⟨qs1, h1⟩ := array_rep hg k (off + ts.length) (fun i hi => by
      obtain ⟨y, hy⟩ := hf (i + 1) (by omega)
      rw [Nat.succ_mul, show off + (i * ts.length + ts.length) = off + ts.length + i * ts.length by omega] at hy
      exact ⟨y, hy⟩) (by rw [hl, Nat.succ_mul]; omega)
    refine ⟨qs0 ++ qs1, ?_⟩
    have e : cs.drop off = (cs.drop off).take ts.length ++ cs.drop (off + ts.length) := by
      rw [← List.drop_drop]; exact (List.take_append_drop _ _).symm
    rw [e]
    exact h0.append h1

theorem rep_trod : ∀ (m : Nat) (t : TypeId) (ts : List Ty) (n : Nat) (cs : List Value) (x : DataW H × List MemPlace), tyCells P m t = some ts → DataW.trod enc P w base spare held n t cs = some x → ∃ qs, RepL w cs qs ts
  | 0, _, _, _, _, _, h, _ => by simp [tyCells] at h
  | m + 1, t, ts, n, cs, x, h, hx => by
    simp only [tyCells] at h
    split at h
    · rename_i ht
      cases h
      obtain ⟨b, rfl, _⟩ := DataW.trod_bool ht hx
      exact ⟨[.bool b], .cons (.bool b) (.bool b) rfl .nil⟩
    · rename_i k ht
      cases h
      obtain ⟨i, rfl, _, hw⟩ := DataW.trod_int ht hx
      exact ⟨[.int k i], .cons (.int k i) (.int hw) rfl .nil⟩
    · rename_i ht
      cases h
      obtain ⟨s, rfl, _, hs⟩ := DataW.trod_string ht hx
      exact ⟨[.str s.data.toList], .cons (.str s) (.str (by simpa using hs)) rfl .nil⟩
    · rename_i e ht
      split at h
      · cases h
      · rename_i c cs0 hc
        split at h
        · rename_i hsz
          cases h
          rw [beq_iff_eq] at hsz
          rcases DataW.trod_slice ht hx with ⟨rfl, _⟩ | ⟨a, len, cap, elems, rest, n', _, rfl, _, _, hlc, hcm, hel, hget, _⟩
          · exact ⟨[.sl (c :: cs0).length []], .cons (.sl (fun _ _ => undef) rfl (Nat.le_refl _) (fun i row hi => by simp at hi) (fun hn => absurd rfl hn) (fun i j row q hi => by simp at hi)) (.sl (fun row hr => by cases hr) (fun row hr => by cases hr) (Nat.zero_le _)) rfl .nil⟩
          · have hone : ∀ i, i < len → ∃ ci qs, w.cells? base (a.add (i * (c :: cs0).length)) (c :: cs0).length = some ci ∧ RepL w ci qs (c :: cs0) := by
              intro i hi
              have := hget i hi
              rw [hsz, List.getElem?_eq_getElem (by omega), Option.bind_eq_some_iff] at this
              obtain ⟨ci, h1, h2⟩ := this
              obtain ⟨qs, hq⟩ := rep_trod m e _ _ _ _ hc h2
              exact ⟨ci, qs, h1, hq⟩
            have hspot : 0 < len → a.spot = none := by
              intro hpos
              obtain ⟨ci, qs, h1, _⟩ := hone 0 hpos
              obtain ⟨_, hl, hcell⟩ := World.cells?_some h1
              have hlt : 0 < ci.length := by rw [hl]; simp
              have h0 := hcell 0 (by simp)
              rw [List.getElem?_eq_getElem hlt] at h0
              simp only [Nat.zero_mul] at h0
              have e0 : (a.add 0).add 0 = a := by simp [Addr.add]
              rw [e0] at h0
              unfold World.cell? at h0
              split at h0
              · split at h0
                · cases h0
                · rename_i hs; simpa using hs
              · cases h0
            classical
            let rowf : Nat → List PV := fun i => if hi : i < len then (hone i hi).choose_spec.choose else []
            have hrowf : ∀ i, i < len → ∃ ci, w.cells? base (a.add (i * (c :: cs0).length)) (c :: cs0).length = some ci ∧ RepL w ci (rowf i) (c :: cs0) := by
              intro i hi
              have := (hone i hi).choose_spec.choose_spec
              refine ⟨(hone i hi).choose, this.1, ?_⟩
              simp only [rowf, dif_pos hi]
              exact this.2
            let rows : List (List PV) := (List.range len).map rowf
            have hrow : ∀ (i : Nat) (row : List PV), rows[i]? = some row → i < len ∧ row = rowf i := by
              intro i row hr
              simp only [rows, List.getElem?_map, Option.map_eq_some_iff] at hr
              obtain ⟨k, hk, rfl⟩ := hr
              rw [List.getElem?_eq_some_iff] at hk
              obtain ⟨h1, h2⟩ := hk
              simp at h1 h2
              subst h2
              exact ⟨h1, rfl⟩
            let f : Nat → Nat → Value := fun i j => (w.cell? ⟨a.block, a.off + (i * (c :: cs0).length + j), none⟩).getD undef
            have hcell : ∀ i j, i < len → j < (c :: cs0).length → ∃ ci, RepL w ci (rowf i) (c :: cs0) ∧ ci[j]? = some (f i j) ∧ w.cell? ⟨a.block, a.off + (i * (c :: cs0).length + j), none⟩ = some (f i j) := by
              intro i j hi hj
              obtain ⟨ci, h1, h2⟩ := hrowf i hi
              obtain ⟨_, hl, hcell⟩ := World.cells?_some h1
              have hs := hspot (by omega)
              have e0 : (a.add (i * (c :: cs0).length)).add j = ⟨a.block, a.off + (i * (c :: cs0).length + j), none⟩ := by
                rw [add_none hs, add_none rfl]
                simp [Nat.add_assoc]
              have h0 := hcell j hj
              rw [e0, List.getElem?_eq_getElem (by rw [hl]; exact hj)] at h0
              refine ⟨ci, h2, ?_, ?_⟩
              · rw [List.getElem?_eq_getElem (by rw [hl]; exact hj)]; simp only [f, h0, Option.getD_some]
              · simp only [f, h0, Option.getD_some]
            have hwl : ∀ (i : Nat) (row : List PV), rows[i]? = some row → row.length = (c :: cs0).length := by
              intro i row hr
              obtain ⟨hi, rfl⟩ := hrow i row hr
              obtain ⟨ci, _, h2⟩ := hrowf i hi
              exact h2.len.2
            refine ⟨[.sl (c :: cs0).length rows], .cons (.sl f (by simp [rows]) hlc hwl (fun hne => ?_) (fun i j row q hr hq => ?_)) (.sl (fun row hr => ?_) (fun row hr j q t hq ht' => ?_) (by simp [rows]; omega)) rfl .nil⟩
            · have hpos : 0 < len := by
                rcases Nat.eq_zero_or_pos len with h0 | h0
                · exact absurd (by simp [rows, h0]) hne
                · exact h0
              refine ⟨a, rfl, hspot hpos, fun i j hi hj => ?_⟩
              have hi : i < len := by simpa [rows] using hi
              obtain ⟨ci, h1, h2, h3⟩ := hcell i j hi hj
              have hq : (rowf i)[j]? = some ((rowf i)[j]'(by rw [h1.len.2]; exact hj)) := List.getElem?_eq_getElem _
              exact ⟨h3, by unfold Iall; rw [h3]; rfl, (h1.get j _ _ h2 hq).2.1⟩
            · obtain ⟨hi, rfl⟩ := hrow i row hr
              have hj : j < (c :: cs0).length := by
                have := (List.getElem?_eq_some_iff.1 hq).1
                rw [hwl i _ hr] at this; exact this
              obtain ⟨ci, h1, h2, h3⟩ := hcell i j hi hj
              exact (h1.get j _ _ h2 hq).1
            · obtain ⟨i, hi⟩ := List.getElem?_of_mem hr
              exact hwl i row hi
            · obtain ⟨i, hi⟩ := List.getElem?_of_mem hr
              obtain ⟨hlt, rfl⟩ := hrow i row hi
              have hj : j < (c :: cs0).length := (List.getElem?_eq_some_iff.1 ht').1
              obtain ⟨ci, h1, h2, h3⟩ := hcell i j hlt hj
              exact (h1.get j _ _ h2 hq).2.2 t ht'
        · cases h
      · cases h
    · rename_i fs ht
      split at h
      · rename_i ts0 hts0
        split at h
        · rename_i hsz
          cases h
          rw [beq_iff_eq] at hsz
          obtain ⟨xs, n', _, _, hl, hxl, hget⟩ := DataW.trod_struct ht hx
          have := fields_rep (n := n') (fun t ts cs x h1 h2 => rep_trod m t ts n' cs x h1 h2) fs.toList 0 ts hts0 (fun i f hf => by
            have hf' : fs[i]? = some f := by simpa using hf
            have hi : i < xs.length := by rw [hxl]; exact (Array.getElem?_eq_some_iff.1 hf').1
            exact ⟨xs[i], (hget i f hf').trans (List.getElem?_eq_getElem hi)⟩) (by rw [hl, hsz]; simp)
          simpa using this
        · cases h
      · cases h
    · rename_i k e ht
      split at h
      · rename_i ts0 hts0
        split at h
        · rename_i hsz
          cases h
          simp only [Bool.and_eq_true, beq_iff_eq] at hsz
          obtain ⟨xs, n', _, _, hl, hxl, hget⟩ := DataW.trod_array ht hx
          have := array_rep (n := n') (e := e) (fun cs x h2 => rep_trod m e ts0 n' cs x hts0 h2) k 0 (fun i hi => by
            have := hget i hi
            rw [hsz.1, List.getElem?_eq_getElem (by omega)] at this
            rw [Nat.zero_add]
            exact ⟨_, this⟩) (by rw [hl, hsz.2]; simp)
          simpa using this
        · cases h
      · cases h
    · cases h

/-- One argument: a struct, or one cell. -/
def tyArg (P : Program) (t : TypeId) : Option (Bool × List Ty) := match tyCells P 100 t with
  | some ts => (match P.underlying t with
    | some (.struct _) => some (true, ts)
    | some (.array _ _) => some (true, ts)
    | some _ => some (false, ts)
    | none => none)
  | none => none

/-- The cells of a struct, or the one cell. -/
def cellsIs : Bool → PV → List PV → Prop
  | true, p, qs => p = .agg qs
  | false, p, qs => qs = [p]

/-- What is known of an argument. -/
def HasArg (x : Bool × List Ty) (p : PV) : Prop :=
  ∃ qs, cellsIs x.1 p qs ∧ qs.length = x.2.length ∧ ∀ (j : Nat) (q : PV) (t : Ty), qs[j]? = some q → x.2[j]? = some t → Has t q

/-- What an argument stands for. -/
def Arg (w : World) (v : Value) (s : Bool) (ts : List Ty) (p : PV) : Prop := RepP w (Iall w) v p ∧ HasArg (s, ts) p

theorem arg_of_trod {t : TypeId} {v : Value} {d : DataW H} {ps : List MemPlace} {s : Bool} {ts : List Ty} (hty : tyArg P t = some (s, ts)) (h : DataW.Trod enc P w base spare held t v d ps) {W : World} {b : Nat} (hok : Value.okWide P W .any b t v) : ∃ p, Arg w v s ts p := by
  unfold tyArg at hty
  split at hty
  · rename_i ts' hts
    obtain ⟨n, hn⟩ := h
    obtain ⟨qs, hq⟩ := rep_trod 100 t ts' n _ _ hts hn
    split at hty
    · rename_i fs ht
      cases hty
      unfold Value.okWide at hok
      rw [ht] at hok
      obtain ⟨cs, rfl, _⟩ := hok
      have hcs : (Value.agg cs).cells.toList = cs.toList := by simp [Value.cells]
      rw [hcs] at hq
      refine ⟨.agg qs, .agg (by have := hq.len; simp at this; omega) (fun j x q hx hq' => (hq.get j x q (by simpa using hx) hq').1), qs, rfl, hq.len.2, fun j q t hq' ht' => ?_⟩
      have hj : j < cs.toList.length := by rw [hq.len.1]; exact (List.getElem?_eq_some_iff.1 ht').1
      exact (hq.get j _ q (List.getElem?_eq_getElem hj) hq').2.2 t ht'
    · rename_i _ _ ht
      cases hty
      unfold Value.okWide at hok
      rw [ht] at hok
      obtain ⟨cs, rfl, _⟩ := hok
      have hcs : (Value.agg cs).cells.toList = cs.toList := by simp [Value.cells]
      rw [hcs] at hq
      refine ⟨.agg qs, .agg (by have := hq.len; simp at this; omega) (fun j x q hx hq' => (hq.get j x q (by simpa using hx) hq').1), qs, rfl, hq.len.2, fun j q t hq' ht' => ?_⟩
      have hj : j < cs.toList.length := by rw [hq.len.1]; exact (List.getElem?_eq_some_iff.1 ht').1
      exact (hq.get j _ q (List.getElem?_eq_getElem hj) hq').2.2 t ht'
    · rename_i td hns hna ht
      cases hty
      have one : ∀ x : Value, v.cells.toList = [x] → v = x ∨ v = .agg #[x] := by
        intro x hx
        cases v <;> simp_all [Value.cells]
        rename_i cs
        exact .inr (congrArg Array.mk hx)
      have hnos : ∀ fs, td ≠ .struct fs := fun fs e => hns fs e
      have hl1 : ts.length = 1 := by
        unfold tyCells at hts
        rw [ht] at hts
        split at hts
        · cases hts; rfl
        · cases hts; rfl
        · cases hts; rfl
        · split at hts
          · cases hts
          · split at hts <;> cases hts; rfl
          · cases hts
        · rename_i fs he; cases he; exact absurd rfl (hnos fs)
        · rename_i k e he; cases he; exact absurd rfl (hna k e)
        · cases hts
      obtain ⟨t1, rfl⟩ : ∃ t1, ts = [t1] := by
        match ts, hl1 with
        | [t1], _ => exact ⟨t1, rfl⟩
      have hlen := hq.len
      obtain ⟨q1, rfl⟩ : ∃ q1, qs = [q1] := by
        match qs, hlen.2 with
        | [q1], _ => exact ⟨q1, rfl⟩
      generalize hcl : v.cells.toList = cl at hq
      cases hq with
      | cons hr ht1 h1 hs =>
        cases hs
        rename_i x
        have hv : v = x := by
          rcases one x hcl with h | h
          · exact h
          · subst h
            exfalso
            unfold tyCells at hts
            unfold Value.okWide at hok
            rw [ht] at hts hok
            split at hok
            · rename_i fs he; cases he; exact hnos fs rfl
            · rename_i n e he; cases he; exact hna n e rfl
            · unfold Cell.okWide at hok
              rw [ht] at hok
              split at hts
              · rename_i he; cases he; simp [Cell.ok, ht] at hok
              · rename_i k he; cases he; simp [Cell.ok, ht] at hok
              · rename_i he; cases he; simp [Cell.ok, ht] at hok
              · rename_i e he; cases he; simp [Cell.ok, ht] at hok
              · rename_i fs he; cases he; exact hnos fs rfl
              · rename_i k e he; cases he; exact hna k e rfl
              · cases hts
        subst hv
        exact ⟨q1, hr, [q1], rfl, rfl, fun j q t hq' ht' => by
          match j with
          | 0 => simp at hq' ht'; subst hq'; subst ht'; exact ht1
          | j + 1 => simp at hq'⟩
    · cases hty
  · cases hty

/-- Arguments read after the call as before. -/
theorem trodAll_below (hl : laidOutB P = true) {W W' : World} (hb : Below W.heap.size W W') {sp : Nat → Bool} : ∀ {ts : List TypeId} {vs : List Value} {ds : List (DataW H)} {ps : List MemPlace}, (∀ t ∈ ts, P.readableRec t = true ∧ t < P.types.size) →
    DataW.TrodAll enc P W 0 (fun _ => true) true ts vs ds ps → (∀ x ∈ ps, x.block < W.heap.size) → (∀ p ∈ ps, sp p.block = true) → DataW.TrodAll enc P W' 0 sp true ts vs ds ps
  | [], [], [], _, _, h, _, _ => h
  | t :: ts, v :: vs, d :: ds, _, hr, ⟨p, q, h1, h2, e⟩, hlt, hs => by
    subst e
    obtain ⟨r1, r2⟩ := hr t (by simp)
    exact ⟨p, q, WideElems.Trod_stays hl r1 r2 h1 (fun x hx => hb.same (hlt x (List.mem_append_left _ hx))) (fun x hx => hs x (List.mem_append_left _ hx)),
      trodAll_below hl hb (fun t ht => hr t (by simp [ht])) h2 (fun x hx => hlt x (List.mem_append_right _ hx)) (fun x hx => hs x (List.mem_append_right _ hx)), rfl⟩
  | [], _ :: _, _, _, _, h, _, _ => h.elim
  | [], [], _ :: _, _, _, h, _, _ => h.elim
  | _ :: _, [], _, _, _, h, _, _ => h.elim
  | _ :: _, _ :: _, [], _, _, h, _, _ => h.elim
end
end Go.Ab

/- A law's statement from its contract. Under: nothing. -/
namespace Go.Ab
open Go.ChangeShapes Go.WideShapes Go.ChangeAt Go.RowKit

inductive ArgsHave : List (Bool × List Ty) → List PV → Prop
  | nil : ArgsHave [] []
  | cons {x : Bool × List Ty} {p : PV} {xs : List (Bool × List Ty)} {ps : List PV} (h : HasArg x p) (hs : ArgsHave xs ps) : ArgsHave (x :: xs) (p :: ps)

theorem args_of_trod {H : Type} {enc : TypeId × Value → H} {P : Program} {w : World} {base : Nat} {spare : Nat → Bool} {held : Bool} {b : Nat} : ∀ {ts : List TypeId} {vs : List Value} {ds : List (DataW H)} {ps : List MemPlace} {tys : List (Bool × List Ty)},
    DataW.TrodAll enc P w base spare held ts vs ds ps → (∀ (j : Nat) t v, ts[j]? = some t → vs[j]? = some v → Value.okWide P w .any b t v) → ts.map (tyArg P) = tys.map some →
    ∃ qs, ArgsHave tys qs ∧ vs.length = qs.length ∧ ∀ (j : Nat) (x : Value) (q : PV), vs[j]? = some x → qs[j]? = some q → RepP w (Iall w) x q
  | [], [], [], _, tys, _, _, hty => by
    cases tys with
    | nil => exact ⟨[], .nil, rfl, fun j x q hx => by simp at hx⟩
    | cons => simp at hty
  | t :: ts, v :: vs, d :: ds, _, tys, ⟨p, q, h1, h2, _⟩, hok, hty => by
    cases tys with
    | nil => simp at hty
    | cons x tys =>
      simp only [List.map_cons, List.cons.injEq] at hty
      obtain ⟨s, tl⟩ := x
      obtain ⟨pv, hrep, hhas⟩ := arg_of_trod (b := b) hty.1 h1 (hok 0 t v rfl rfl)
      obtain ⟨qs, g1, g2, g3⟩ := args_of_trod h2 (fun j t v ht hv => hok (j + 1) t v (by simpa using ht) (by simpa using hv)) hty.2
      refine ⟨pv :: qs, .cons hhas g1, by simp [g2], fun j x q hx hq => ?_⟩
      cases j with
      | zero => simp at hx hq; subst hx; subst hq; exact hrep
      | succ j => exact g3 j x q (by simpa using hx) (by simpa using hq)
  | [], _ :: _, _, _, _, h, _, _ => h.elim
  | [], [], _ :: _, _, _, h, _, _ => h.elim
  | _ :: _, [], _, _, _, h, _, _ => h.elim
  | _ :: _, _ :: _, [], _, _, h, _, _ => h.elim

theorem trodAll_len {H : Type} {enc : TypeId × Value → H} {P : Program} {w : World} {base : Nat} {spare : Nat → Bool} {held : Bool} : ∀ {ts : List TypeId} {vs : List Value} {ds : List (DataW H)} {ps : List MemPlace}, DataW.TrodAll enc P w base spare held ts vs ds ps → ds.length = ts.length
  | [], [], [], _, _ => rfl
  | t :: ts, v :: vs, d :: ds, _, ⟨p, q, h1, h2, _⟩ => by simp [trodAll_len h2]
  | [], _ :: _, _, _, h => h.elim
  | [], [], _ :: _, _, h => h.elim
  | _ :: _, [], _, _, h => h.elim
  | _ :: _, _ :: _, [], _, h => h.elim

/-- A law without package variables. -/
theorem law_calls {H : Type} {enc : TypeId × Value → H} {P : Program} {f : Nat} {fn : Func} {s : ChangeSpec} {apart again : Bool} {tb : TypeId} {W : World} {base : Nat} {args : Array Value} {ds gs : List (DataW H)} {before : List MemPlace} {G : Gl} {tys : List (Bool × List Ty)}
    (hl : laidOutB P = true) (hread : (fn.params.toList.all fun t => P.readableRec t && decide (t < P.types.size)) = true) (hty : fn.params.toList.map (tyArg P) = tys.map some)
    (hvars : s.vars = []) (hres : fn.resultTypes = #[tb]) (htb : P.underlying tb = some .bool) (hspec : ∀ ds : List (DataW H), ds.length = fn.params.size → s.fn H ds = { results := [.lit (.bool true)], args := ds })
    (hval : ∀ (j : Nat) t v, fn.params[j]? = some t → args[j]? = some v → Value.okWide P W .any base t v) (hW : DataW.Whole enc P fn.params.toList s.vars apart W args.toList ds gs before)
    (hG : GlobOk P G W (Iall W)) (hlaw : ∀ ps, ArgsHave tys ps → OkC P G f ps [] (.bool true)) :
    Calls P f args W fun e W' => ∃ v, e = .returned v ∧ s.post enc P fn apart true false again W args v W' := by
  have hW' := hW
  obtain ⟨p, q, hA, hV, rfl, hfz, hnd⟩ := hW
  rw [hvars] at hV
  obtain ⟨rfl, rfl⟩ := trodVars_none hV
  simp only [List.append_nil] at hW'
  have hlen := trodAll_len hA
  obtain ⟨qs, h1, h2, h3⟩ := args_of_trod (b := base) hA (fun j t v ht hv => hval j t v (by simpa using ht) (by simpa using hv)) hty
  have hc := (hlaw qs h1 W (Iall W) args (Iall_bnd W) hG ⟨by simpa using h2, fun j x q hx hq => h3 j x q (by simpa using hx) hq⟩).2
  refine (callsIn_wide.1 hc).mono fun e W' he => ?_
  cases e with
  | returned v =>
    obtain ⟨I', hb, _, _, hr⟩ := he
    obtain ⟨ι₁, _, hrep⟩ := hr 0
    have hv : v = .bool true := inv_bool hrep
    subst hv
    have hds : s.fn H (ds ++ []) = { results := [.lit (.bool true)], args := ds } := by
      rw [List.append_nil]; exact hspec ds (by rw [hlen]; simp)
    refine ⟨_, rfl, post_of_below (pa := p) (pv := []) hW' (fun b sp hd => ?_) (fun sp hsp => ?_) (fun sp _ => ?_) (by simp) hb (ok_one hres rfl (okWide_bool_mk htb _))⟩
    · rw [hres, hds]; exact trodAll_cons_mk (shut_bool htb _) trodAll_mk0
    · rw [hds]
      exact trodAll_below hl hb (fun t ht => by
        have := List.all_eq_true.1 hread t ht
        simpa using this) hA (fun x hx => hW'.lt x hx) hsp
    · rw [hds, hvars]; rfl
  | panicked c => exact he.elim
  | outgrown => exact he.elim
end Go.Ab

/- slices.Delete said outright: it changes one own block in place. Under: nothing. -/
namespace Go.Ab
open Go.RowKit
set_option linter.unusedSimpArgs false

/-! ### From a run of the inlined function to the function said outright -/
section
variable {w w' : World} {I I' : Imm} {ι ι' : Nat → Option Nat} {σ σ' : Store} {D D' : Nat → Prop}

end

/-! ### slices.Delete -/

end Go.Ab

/- Contracts of the library's pure functions as contracts here; strings.Index. Under: nothing. -/
namespace Go.Ab
open Go.RowKit

end Go.Ab

/- Pure values compared. Under: nothing. -/
namespace Go.Ab

def eqBy : List UInt8 → List UInt8 → Bool
  | [], [] => true
  | a :: l, b :: m => Nat.beq a.toNat b.toNat && eqBy l m
  | _, _ => false

theorem eqBy_eq : ∀ {l m : List UInt8}, eqBy l m = true → l = m
  | [], [], _ => rfl
  | a :: l, b :: m, h => by
    simp only [eqBy, Bool.and_eq_true] at h
    rw [UInt8.toNat_inj.1 (Nat.eq_of_beq_eq_true h.1), eqBy_eq h.2]
  | [], _ :: _, h => by simp [eqBy] at h
  | _ :: _, [], h => by simp [eqBy] at h

mutual
def eqP : PV → PV → Bool
  | .bool a, q => (match q with | .bool b => (match a, b with | true, true => true | false, false => true | _, _ => false) | _ => false)
  | .int k a, q => (match q with | .int k' b => decide (k = k') && decide (a = b) | _ => false)
  | .str a, q => (match q with | .str b => eqBy a b | _ => false)
  | .sl e r, q => (match q with | .sl e' r' => Nat.beq e e' && eqR r r' | _ => false)
  | .ref a, q => (match q with | .ref b => eqL a b | _ => false)
  | .agg a, q => (match q with | .agg b => eqL a b | _ => false)
  | .tup a, q => (match q with | .tup b => eqL a b | _ => false)
  | .emp a, q => (match q with | .emp b => Nat.beq a b | _ => false)
  | .nilFunc, q => (match q with | .nilFunc => true | _ => false)
  | .func _ _ _, _ => false
def eqL : List PV → List PV → Bool
  | [], q => (match q with | [] => true | _ => false)
  | a :: l, q => (match q with | b :: m => eqP a b && eqL l m | _ => false)
def eqR : List (List PV) → List (List PV) → Bool
  | [], q => (match q with | [] => true | _ => false)
  | a :: l, q => (match q with | b :: m => eqL a b && eqR l m | _ => false)
end

mutual
theorem eqP_eq : ∀ (p q : PV), eqP p q = true → p = q
  | .bool a, q, h => by
    simp only [eqP] at h
    split at h
    · split at h <;> first | rfl | cases h
    · cases h
  | .int k a, q, h => by
    simp only [eqP] at h
    split at h
    · simp only [Bool.and_eq_true, decide_eq_true_eq] at h; rw [h.1, h.2]
    · cases h
  | .str a, q, h => by
    simp only [eqP] at h
    split at h
    · rw [eqBy_eq h]
    · cases h
  | .sl e r, q, h => by
    simp only [eqP] at h
    split at h
    · simp only [Bool.and_eq_true] at h
      rw [Nat.eq_of_beq_eq_true h.1, eqR_eq _ _ h.2]
    · cases h
  | .ref a, q, h => by
    simp only [eqP] at h
    split at h
    · rw [eqL_eq _ _ h]
    · cases h
  | .agg a, q, h => by
    simp only [eqP] at h
    split at h
    · rw [eqL_eq _ _ h]
    · cases h
  | .tup a, q, h => by
    simp only [eqP] at h
    split at h
    · rw [eqL_eq _ _ h]
    · cases h
  | .emp a, q, h => by
    simp only [eqP] at h
    split at h
    · rw [Nat.eq_of_beq_eq_true h]
    · cases h
  | .nilFunc, q, h => by
    simp only [eqP] at h
    split at h
    · rfl
    · cases h
  | .func _ _ _, q, h => by simp [eqP] at h
theorem eqL_eq : ∀ (p q : List PV), eqL p q = true → p = q
  | [], q, h => by
    simp only [eqL] at h
    split at h
    · rfl
    · cases h
  | a :: l, q, h => by
    simp only [eqL] at h
    split at h
    · simp only [Bool.and_eq_true] at h
      rw [eqP_eq _ _ h.1, eqL_eq _ _ h.2]
    · cases h
theorem eqR_eq : ∀ (p q : List (List PV)), eqR p q = true → p = q
  | [], q, h => by
    simp only [eqR] at h
    split at h
    · rfl
    · cases h
  | a :: l, q, h => by
    simp only [eqR] at h
    split at h
    · simp only [Bool.and_eq_true] at h
      rw [eqL_eq _ _ h.1, eqR_eq _ _ h.2]
    · cases h
end

def kn0 : Nat → List PV → Option (Own × PV) := fun _ _ => none
/-- A result compared with what is said. -/
def isR (own : Own) (r : PV) (o : Option (Own × PV)) : Bool := match o with
  | some (own', r') => decide (own = own') && eqP r' r
  | none => false
theorem isR_eq {own : Own} {r : PV} {o : Option (Own × PV)} (h : isR own r o = true) : o = some (own, r) := by
  unfold isR at h
  split at h
  · simp only [Bool.and_eq_true, decide_eq_true_eq] at h
    rw [eqP_eq _ _ h.2, h.1]
  · cases h
end Go.Ab

/- Helps for runs with symbols. Under: nothing. -/
namespace Go.Ab
open Go.RowKit

theorem stuckF {A B : Prop} {b : Bool} (hb : b = false) (h : B) : (match (generalizing := false) b with | true => A | false => B) := by subst hb; exact h
theorem stuckT {A B : Prop} {b : Bool} (hb : b = true) (h : A) : (match (generalizing := false) b with | true => A | false => B) := by subst hb; exact h
theorem stuckStep {o : Option Eff} {e : Eff} {K : Eff → Prop} (h : o = some e) (hK : K e) : (match (generalizing := false) o with | some e => K e | none => False) := by subst h; exact hK

theorem wrap_small {v : Int} (h1 : -9223372036854775808 ≤ v) (h2 : v < 9223372036854775808) : IntKind.i64.wrap v = v := by
  show (if (true && decide (v % (2 ^ 64 : Int) ≥ (2 ^ 63 : Int))) = true then v % (2 ^ 64 : Int) - (2 ^ 64 : Int) else v % (2 ^ 64 : Int)) = v
  by_cases h : 0 ≤ v
  · have e : v % (2 ^ 64 : Int) = v := by omega
    have e2 : decide (v ≥ (2 ^ 63 : Int)) = false := by simp; omega
    simp only [e, e2, Bool.and_false, Bool.false_eq_true, if_false]
  · have e : v % (2 ^ 64 : Int) = v + (2 ^ 64 : Int) := by omega
    have e2 : decide (v + (2 ^ 64 : Int) ≥ (2 ^ 63 : Int)) = true := by simp; omega
    simp only [e, e2, Bool.and_self, if_true]
    omega

theorem iaddr_at {σ : Store} {nm es : Nat} {ev : RA → AV} {x i : RA} {rows : List (List PV)} {j : Int} {r : List PV} (hx : ev x = .pv (.sl es rows)) (hi : ev i = .pv (.int .i64 j)) (h0 : 0 ≤ j) (hr : rows[j.toNat]? = some r) :
    step σ nm ev (.iaddr es x i) = some { v := .pv (.ref r) } := by
  simp [step, step.iaddrP, Eff.of, hx, hi, idxOf, h0, hr]

theorem append_own {σ : Store} {nm es bytes c : Nat} {ev : RA → AV} {s x : RA} {b : Nat} {L xs : List (List PV)} {rd : List Nat} (hs : ev s = .own b 0 c) (hc : L.length = c) (hf : find σ b = some (.arr es L false)) (hx : prowsOf σ es (ev x) = some (xs, rd)) (hb : (c + xs.length) * bytes ≤ 2 ^ 40) :
    step σ nm ev (.append es bytes s x) = some { v := .own nm 0 (c + xs.length), rd := b :: rd, up := [(b, none), (nm, some (.arr es (L ++ xs) false))] } := by
  simp only [step, hs, AV.e, hf, hc, and_self, if_true, hx]
  rw [if_pos hb]

theorem rem_at {σ : Store} {nm : Nat} {ev : RA → AV} {x y : RA} {k : IntKind} {a b : Int} (hx : ev x = .pv (.int k a)) (hy : ev y = .pv (.int k b)) (hb : b ≠ 0) : step σ nm ev (.bin .rem x y) = some { v := .pv (.int k (a.tmod b)) } := by
  simp only [step, hx, hy, binop, if_true, Eff.of]
  rw [if_neg hb]

theorem iaddr_own {σ : Store} {nm es c : Nat} {ev : RA → AV} {x i : RA} {b : Nat} {rows : List (List PV)} {sl : Bool} {j : Int} (hx : ev x = .own b 0 c) (hi : ev i = .pv (.int .i64 j)) (hf : find σ b = some (.arr es rows sl)) (h0 : 0 ≤ j) (h1 : j < c) :
    step σ nm ev (.iaddr es x i) = some { v := .ptr b j.toNat 0, rd := [b] } := by
  simp [step, hx, hi, idxOf, hf, h0, h1, SObj.es]

theorem load_arr {σ : Store} {nm es : Nat} {ev : RA → AV} {x : RA} {b i : Nat} {rows : List (List PV)} {sl : Bool} {p : PV} (hx : ev x = .ptr b i 0) (hf : find σ b = some (.arr es rows sl)) (hr : rows[i]? = some [p]) :
    step σ nm ev (.load false 1 x) = some { v := .pv p, rd := [b] } := by
  simp [step, hx, hf, SObj.row?, hr, mkAgg]

/-- A loop with symbols: the state as the round begins. -/
theorem loop_norm {X : St → Prop} {live : List Nat} {f : St → Prop} (hX : ∀ s, normK live s f → X s) : ∀ s, f (norm live s) → X s := fun s h => hX s (by rw [normK_eq]; exact h)
end Go.Ab
