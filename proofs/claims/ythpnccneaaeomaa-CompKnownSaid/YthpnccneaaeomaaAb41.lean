/- slices.Delete said outright: it changes one own block in place. Under: nothing. -/
import Derived.Test.YthpnccneaaeomaaAb40
namespace Go.Ab
open Go.RowKit
set_option linter.unusedSimpArgs false

/-! ### From a run of the inlined function to the function said outright -/
section
variable {w w' : World} {I I' : Imm} {ι ι' : Nat → Option Nat} {σ σ' : Store} {D D' : Nat → Prop}

/-- A value that stood for the same before names no block that was not there then. -/
theorem RepA.restrict {v : Value} {a : AV} (h : RepA w I ι σ D v a) : ∀ v', RepA w' I' ι' σ' D' v' a → RepA w' I' ι' σ' D v' a := by
  induction h with
  | pv _ => intro v' h; cases h with | pv h => exact .pv h
  | emp es => intro v' h; cases h; exact .emp es
  | fsl _ => intro v' h; cases h with | fsl h => exact .fsl h
  | ptr hD _ _ => intro v' h; cases h with | ptr _ h1 h => exact .ptr hD h1 h
  | own hD _ _ => intro v' h; cases h with | own _ h1 h => exact .own hD h1 h
  | mref hD _ _ => intro v' h; cases h with | mref _ h1 h => exact .mref hD h1 h
  | agg hl _ ih =>
    intro v' h
    cases h with
    | agg hl' h =>
      refine .agg hl' fun j x q hx hq => ?_
      have hj := (List.getElem?_eq_some_iff.1 hq).1
      exact ih j _ q (Array.getElem?_eq_getElem (by omega)) hq x (h j x q hx hq)
  | tup hl _ ih =>
    intro v' h
    cases h with
    | tup hl' h =>
      refine .tup hl' fun j x q hx hq => ?_
      have hj := (List.getElem?_eq_some_iff.1 hq).1
      exact ih j _ q (Array.getElem?_eq_getElem (by omega)) hq x (h j x q hx hq)
  | func hl hl' _ _ ih ih' =>
    intro v' h
    cases h with
    | func k k' h h' =>
      refine .func k k' (fun j x q hx hq => ?_) fun j x q hx hq => ?_
      · have hj := (List.getElem?_eq_some_iff.1 hq).1
        exact ih j _ q (Array.getElem?_eq_getElem (by omega)) hq x (h j x q hx hq)
      · have hj := (List.getElem?_eq_some_iff.1 hq).1
        exact ih' j _ q (Array.getElem?_eq_getElem (by omega)) hq x (h' j x q hx hq)
  | anyB b => intro v' h; cases h with | anyB b => exact .anyB b
  | yld hD _ => intro v' h; cases h with | yld _ h => exact .yld hD h
  | mark v k => intro v' _; exact .mark v' k
  | undef v => intro v' _; exact .undef v'

theorem Core.restrict {B : Nat} {w0 : World} {I0 : Imm} {c es : Nat} {rows : List (List PV)} (hc : Core B w0 I0 w I ι σ D) (hD : D c) (hc' : Core B w0 I0 w' I' ι' (upAll σ [(c, some (.arr es rows false))]) D') :
    Core B w0 I0 w' I' ι' (upAll σ [(c, some (.arr es rows false))]) D := by
  obtain ⟨hs, b1, b2, b3, b4⟩ := hc'
  have key : ∀ b o, find (upAll σ [(c, some (.arr es rows false))]) b = some o → (b = c ∧ o = .arr es rows false) ∨ find σ b = some o := by
    intro b o h
    simp only [upAll, find_upS] at h
    by_cases e : b = c
    · rw [if_pos e] at h; cases h; exact .inl ⟨e, rfl⟩
    · rw [if_neg e] at h; exact .inr h
  refine ⟨⟨hs.bnd, fun b o h => ?_, hs.inj, hs.ge, hs.sep, fun b o h => ?_⟩, b1, b2, b3, b4⟩
  · rcases key b o h with ⟨rfl, _⟩ | h
    · exact hD
    · exact hc.sims.dom b o h
  · have hob := hs.obj b o h
    have rowsR : (∀ (i : Nat) (row : List AV) (j : Nat) (v : AV), o.row? i = some row → row[j]? = some v → ∀ x, RepA w' I' ι' (upAll σ [(c, some (.arr es rows false))]) D' x v → RepA w' I' ι' (upAll σ [(c, some (.arr es rows false))]) D x v) →
        RowsRep w' I' ι' (upAll σ [(c, some (.arr es rows false))]) D' b o → RowsRep w' I' ι' (upAll σ [(c, some (.arr es rows false))]) D b o := by
      intro hv
      rintro (h | ⟨r, cs, T, fz, h1, h2, h3, h4, h5⟩)
      · exact .inl h
      · refine .inr ⟨r, cs, T, fz, h1, h2, h3, h4, fun i row hrow => ⟨(h5 i row hrow).1, fun j v hj => ?_⟩⟩
        obtain ⟨x, hx, hrep⟩ := (h5 i row hrow).2 j v hj
        exact ⟨x, hx, hrep.1, hv i row j v hrow hj x hrep.2⟩
    have pureR : ∀ (e : Nat) (rs : List (List PV)) (sl : Bool), o = .arr e rs sl → RowsRep w' I' ι' (upAll σ [(c, some (.arr es rows false))]) D b o := by
      intro e rs sl ho
      subst ho
      refine rowsR (fun i row j v hrow hj x hx => ?_) hob
      simp only [SObj.row?] at hrow
      split at hrow
      · cases hrow
        rw [List.getElem?_map, Option.map_eq_some_iff] at hj
        obtain ⟨p, _, rfl⟩ := hj
        cases hx with
        | pv h => exact .pv h
      · cases hrow
    rcases key b o h with ⟨rfl, rfl⟩ | hold
    · exact pureR _ _ _ rfl
    · have hob0 := hc.sims.obj b o hold
      cases o with
      | arr e rs sl => exact pureR _ _ _ rfl
      | box e rs sl =>
        refine rowsR (fun i row j v hrow hj x hx => ?_) hob
        rcases hob0 with ⟨_, h2⟩ | ⟨r, cs, T, fz, h1, h2, h3, h4, h5⟩
        · simp only [SObj.row?] at hrow
          simp only [SObj.len, List.length_eq_zero_iff] at h2
          subst h2
          simp at hrow
        · obtain ⟨x0, _, hrep⟩ := (h5 i row hrow).2 j v hj
          exact hrep.2.restrict x hx
      | map ents =>
        obtain ⟨r, es', clock, h1, h2, h3, h4⟩ := hob
        obtain ⟨r0, es0, clock0, g1, g2, g3, g4⟩ := hob0
        refine ⟨r, es', clock, h1, h2, fun e he => ?_, h4⟩
        obtain ⟨k, v, k1, k2, k3⟩ := h3 e he
        obtain ⟨e0, he0, ke⟩ := g4 k v k2
        obtain ⟨k0, v0, l1, l2, l3⟩ := g3 e0 he0
        have hkk : k = k0 := by
          rw [ke] at l1
          simpa using l1
        subst hkk
        rw [k2] at l2
        cases l2
        exact ⟨k, v, k1, k2, l3.restrict _ k3⟩
end

/-! ### slices.Delete -/

def delRest (es bytes : Nat) (zero : List PV) : RC := .seq (.reg [⟨some 18, .mv (.t 0), none, 0⟩, ⟨some 19, .slen (.t 18), none, 1⟩, ⟨some 7, .mv (.t 19), none, 3⟩] false)
 (.seq (.reg [⟨some 20, .mv (.t 0), none, 0⟩, ⟨some 21, .mv (.t 1), none, 0⟩, ⟨some 22, .slice es (.t 20) none (some (.t 21)) none, none, 3⟩, ⟨some 23, .mv (.t 0), none, 0⟩, ⟨some 24, .mv (.t 2), none, 0⟩, ⟨some 25, .slice es (.t 23) (some (.t 24)) none none, none, 24⟩, ⟨some 26, .append es bytes (.t 22) (.t 25), none, 63⟩, ⟨some 0, .mv (.t 26), none, 127⟩] true)
 (.seq (.reg [⟨some 27, .mv (.t 0), none, 0⟩, ⟨some 28, .mv (.t 0), none, 0⟩, ⟨some 29, .slen (.t 28), none, 2⟩, ⟨some 30, .mv (.t 7), none, 0⟩, ⟨some 31, .slice es (.t 27) (some (.t 29)) (some (.t 30)) none, none, 15⟩, ⟨none, .clear es zero (.t 31), none, 31⟩] false)
 (.seq (.reg [⟨some 32, .mv (.t 0), none, 0⟩, ⟨some 6, .mv (.t 32), none, 1⟩] false)
 (.ret))))

def deleteC (es bytes : Nat) (zero : List PV) : RFn := ⟨3, 33, [.tmp 6],
 .seq (.reg [⟨some 6, .mv (.c (.emp es)), none, 0⟩] false)
 (.seq (.reg [⟨some 8, .mv (.t 0), none, 0⟩, ⟨some 9, .mv (.t 1), none, 0⟩, ⟨some 10, .mv (.t 2), none, 0⟩, ⟨some 11, .mv (.t 0), none, 0⟩, ⟨some 12, .slen (.t 11), none, 8⟩, ⟨some 13, .slice es (.t 8) (some (.t 9)) (some (.t 10)) (some (.t 12)), none, 31⟩] false)
 (.seq (.seq (.reg [⟨some 14, .mv (.t 1), none, 0⟩, ⟨some 15, .mv (.t 2), none, 0⟩, ⟨some 16, .bin .eql (.t 14) (.t 15), none, 3⟩] false)
 (.cond (.t 16)
  (.seq (.reg [⟨some 17, .mv (.t 0), none, 0⟩, ⟨some 6, .mv (.t 17), none, 1⟩] false)
  (.ret))
  (.skip)))
 (delRest es bytes zero)))⟩

/-- What is left when rows i to j go. -/
def delRows (zero : List PV) (rows : List (List PV)) (i j : Nat) : List (List PV) := rows.take i ++ rows.drop j ++ List.replicate (j - i) zero

def deleteE (es : Nat) (zero : List PV) : List AV → Store → Option (AV × Nat × Nat × List (List PV))
  | [.own b 0 n, .pv (.int .i64 (.ofNat i)), .pv (.int .i64 (.ofNat j))], σ => match find σ b with
    | some (.arr es' rows false) => if es' = es ∧ rows.length = n ∧ i ≤ j ∧ j ≤ n ∧ zero.length = es then some (.own b 0 (n - (j - i)), b, es, delRows zero rows i j) else none
    | _ => none
  | _, _ => none

theorem deleteE_spec {es : Nat} {zero : List PV} {args : List AV} {σ : Store} {v : AV} {c e : Nat} {rows' : List (List PV)} (h : deleteE es zero args σ = some (v, c, e, rows')) :
    ∃ (n i j : Nat) (rows : List (List PV)), args = [.own c 0 n, .pv (.int .i64 (.ofNat i)), .pv (.int .i64 (.ofNat j))] ∧ find σ c = some (.arr es rows false) ∧ rows.length = n ∧ i ≤ j ∧ j ≤ n ∧ zero.length = es ∧ e = es ∧ v = .own c 0 (n - (j - i)) ∧ rows' = delRows zero rows i j := by
  unfold deleteE at h
  split at h
  · split at h
    · rename_i b n i j _ es' rows hf
      split at h
      · rename_i hc
        cases h
        exact ⟨n, i, j, rows, rfl, by rw [← hc.1]; exact hf, hc.2.1, hc.2.2.1, hc.2.2.2.1, hc.2.2.2.2, rfl, rfl, rfl⟩
      · cases h
    · cases h
  · cases h

def deletePrim (es : Nat) (zero : List PV) : PrimF where
  run := deleteE es zero
  frame := by
    intro args σ σ' v c e rows h hf
    obtain ⟨n, i, j, rows, rfl, h1, rfl, h2, h3, h4, rfl, rfl, rfl⟩ := deleteE_spec h
    simp only [deleteE, hf, h1]
    rw [if_pos ⟨trivial, trivial, h2, h3, h4⟩]

theorem get_set_if {t : T} {n m : Nat} {v : AV} (hn : n < 1024) (hm : m < 1024) : (t.set tdepth n v).get tdepth m = if m = n then v else t.get tdepth m := by
  by_cases h : m = n
  · subst h; rw [if_pos rfl, get_set_eq]
  · rw [if_neg h, get_set_ne hn hm h]

theorem opsW_step {G : Gl} {Ok : Nat → List PV → Own → PV → Prop} {r : RIns} {l : List RIns} {nm : Nat} {recs : List Rec} {st : St} {K : St → Prop} (hg : r.guard = none) (hc : ∀ f args, r.op ≠ .call f args) {e : Eff} (he : step st.σ nm (st.ev G) r.op = some e)
    (h : opsW G Ok true l (nm + stride) (recs ++ [recOf (st.ev G) r.op e r.pre]) (putW st r.dst e.v (upAll st.σ e.up)) K) : opsW G Ok true (r :: l) nm recs st K := by
  simp only [opsW, forceN_eq]
  unfold insW
  rw [hg]
  simp only
  unfold opW
  split
  · rename_i f args hop; exact absurd hop (hc f args)
  · obtain ⟨tm, σ, nx, nt⟩ := st
    simp only at he
    simp only [he, upAllK_eq, putK_eq]
    exact h

theorem delRows_eq {zero : List PV} {rows : List (List PV)} {i j : Nat} (h1 : i ≤ j) (h2 : j ≤ rows.length) :
    (rows.take i ++ (rows.drop j).take (rows.length - j) ++ rows.drop (i + (rows.length - j))).take (i + (rows.length - j)) ++ List.replicate (j - i) zero ++ (rows.take i ++ (rows.drop j).take (rows.length - j) ++ rows.drop (i + (rows.length - j))).drop (i + (rows.length - j) + (j - i)) = delRows zero rows i j := by
  have e1 : (rows.drop j).take (rows.length - j) = rows.drop j := List.take_of_length_le (by simp)
  have e2 : (rows.take i ++ rows.drop j).length = i + (rows.length - j) := by simp; omega
  rw [e1, List.take_append_of_le_length (by rw [e2]; omega), List.take_of_length_le (by rw [e2]; omega)]
  have e3 : (rows.take i ++ rows.drop j ++ rows.drop (i + (rows.length - j))).drop (i + (rows.length - j) + (j - i)) = [] := by
    apply List.drop_of_length_le
    simp; omega
  rw [e3, List.append_nil]
  rfl

theorem delete_run {G : Gl} {Ok : Nat → List PV → Own → PV → Prop} {E : Env} {es bytes : Nat} {zero : List PV} {b n i j : Nat} {rows : List (List PV)} {σ : Store} {nx : Nat} {K : AV → Store → Nat → Prop}
    (hf : find σ b = some (.arr es rows false)) (hn : rows.length = n) (hij : i ≤ j) (hjn : j ≤ n) (hz : zero.length = es)
    (hK : ∀ σ' nx', (∀ b', find σ' b' = find (upAll σ [(b, some (.arr es (delRows zero rows i j) false))]) b') → K (.own b 0 (n - (j - i))) σ' nx') :
    aw G Ok (deleteC es bytes zero).body false E (retI G [.tmp 6] K) ⟨argsT 0 [.own b 0 n, .pv (.int .i64 i), .pv (.int .i64 j)] .nil, σ, nx, 33⟩ := by
  have second : ∀ (tm : T) (nx : Nat), i < j → tm.get tdepth 0 = .own b 0 n → tm.get tdepth 1 = .pv (.int .i64 i) → tm.get tdepth 2 = .pv (.int .i64 j) →
      aw G Ok (delRest es bytes zero) false E (retI G [.tmp 6] K) ⟨tm, σ, nx, 33⟩ := by
    intro tm nx hlt h0 h1 h2
    have hlen : (rows.take i ++ (rows.drop j).take (rows.length - j) ++ rows.drop (i + (rows.length - j))).length = n := by simp; omega
    simp only [delRest, aw, forceN_eq]
    refine opsS_step (e := { v := .own b 0 n }) rfl (by intro f args e; cases e) (by simp [step, Eff.of, St.ev, putW, get_set_if, upAll, argsT, h0, h1, h2]) ?_
    refine opsS_step (e := { v := .pv (.int .i64 (n : Int)), rd := [b] }) rfl (by intro f args e; cases e) (by simp [step, Eff.of, St.ev, putW, get_set_if, upAll, argsT, h0, h1, h2, AV.e, hf]) ?_
    refine opsS_step (e := { v := .pv (.int .i64 (n : Int)) }) rfl (by intro f args e; cases e) (by simp [step, Eff.of, St.ev, putW, get_set_if, upAll, argsT, h0, h1, h2]) ?_
    simp only [opsS_nil, Ex.then, putW, upAll]
    refine opsW_step (e := { v := .own b 0 n }) rfl (by intro f args e; cases e) (by simp [step, Eff.of, St.ev, putW, get_set_if, upAll, argsT, h0, h1, h2]) ?_
    refine opsW_step (e := { v := .pv (.int .i64 (i : Int)) }) rfl (by intro f args e; cases e) (by simp [step, Eff.of, St.ev, putW, get_set_if, upAll, argsT, h0, h1, h2]) ?_
    refine opsW_step (e := { v := .own b 0 i, rd := [b] }) rfl (by intro f args e; cases e) (by simp [step, Eff.of, St.ev, putW, get_set_if, upAll, argsT, h0, h1, h2, AV.e, hf, optIdx, idxOf, SObj.len, SObj.es]; omega) ?_
    refine opsW_step (e := { v := .own b 0 n }) rfl (by intro f args e; cases e) (by simp [step, Eff.of, St.ev, putW, get_set_if, upAll, argsT, h0, h1, h2]) ?_
    refine opsW_step (e := { v := .pv (.int .i64 (j : Int)) }) rfl (by intro f args e; cases e) (by simp [step, Eff.of, St.ev, putW, get_set_if, upAll, argsT, h0, h1, h2]) ?_
    refine opsW_step (e := { v := .own b j (rows.length - j), rd := [b] }) rfl (by intro f args e; cases e) (by simp [step, Eff.of, St.ev, putW, get_set_if, upAll, argsT, h0, h1, h2, AV.e, hf, optIdx, idxOf, SObj.len, SObj.es]; omega) ?_
    refine opsW_step (e := { v := .own b 0 (i + (rows.length - j)), rd := [b, b], up := [(b, some (.arr es (rows.take i ++ (rows.drop j).take (rows.length - j) ++ rows.drop (i + (rows.length - j))) false))] }) rfl (by intro f args e; cases e) (by simp [step, Eff.of, St.ev, putW, get_set_if, upAll, argsT, h0, h1, h2, AV.e, hf, prowsOf]; rw [if_neg (by omega), if_pos ⟨by omega, by omega⟩]) ?_
    refine opsW_step (e := { v := .own b 0 (i + (rows.length - j)) }) rfl (by intro f args e; cases e) (by simp [step, Eff.of, St.ev, putW, get_set_if, upAll, argsT, h0, h1, h2]) ?_
    simp only [opsW]
    have hcomp : ∀ r, r = true → (match r with | true => True | false => False) := fun r h => by subst h; trivial
    rw [show compat [] _ = true from by simp [compat, compatOne, Rec.clash, meets, Rec.insMeets, recOf, Nat.testBit]]
    simp only [Ex.then, putW, upAll]
    refine opsS_step (e := { v := .own b 0 (i + (rows.length - j)) }) rfl (by intro f args e; cases e) (by simp [step, Eff.of, St.ev, putW, get_set_if, upAll, argsT, h0, h1, h2]) ?_
    refine opsS_step (e := { v := .own b 0 (i + (rows.length - j)) }) rfl (by intro f args e; cases e) (by simp [step, Eff.of, St.ev, putW, get_set_if, upAll, argsT, h0, h1, h2]) ?_
    refine opsS_step (e := { v := .pv (.int .i64 ((i + (rows.length - j)) : Nat)), rd := [b] }) rfl (by intro f args e; cases e) (by simp [step, Eff.of, St.ev, putW, get_set_if, upAll, argsT, h0, h1, h2, AV.e, find_upS]) ?_
    refine opsS_step (e := { v := .pv (.int .i64 (n : Int)) }) rfl (by intro f args e; cases e) (by simp [step, Eff.of, St.ev, putW, get_set_if, upAll, argsT, h0, h1, h2]) ?_
    refine opsS_step (e := { v := .own b (i + (rows.length - j)) (j - i), rd := [b] }) rfl (by intro f args e; cases e) (by simp [step, Eff.of, St.ev, putW, get_set_if, upAll, argsT, h0, h1, h2, AV.e, find_upS, optIdx, idxOf, SObj.len, SObj.es]; omega) ?_
    refine opsS_step (e := { v := .tup [], rd := [b], up := [(b, some (.arr es ((rows.take i ++ (rows.drop j).take (rows.length - j) ++ rows.drop (i + (rows.length - j))).take (i + (rows.length - j)) ++ List.replicate (j - i) zero ++ (rows.take i ++ (rows.drop j).take (rows.length - j) ++ rows.drop (i + (rows.length - j))).drop ((i + (rows.length - j)) + (j - i))) false))] }) rfl (by intro f args e; cases e) (by simp [step, Eff.of, St.ev, putW, get_set_if, upAll, argsT, h0, h1, h2, find_upS]; omega) ?_
    simp only [opsS_nil, Ex.then, putW, upAll]
    refine opsS_step (e := { v := .own b 0 (i + (rows.length - j)) }) rfl (by intro f args e; cases e) (by simp [step, Eff.of, St.ev, putW, get_set_if, upAll, argsT, h0, h1, h2]) ?_
    refine opsS_step (e := { v := .own b 0 (i + (rows.length - j)) }) rfl (by intro f args e; cases e) (by simp [step, Eff.of, St.ev, putW, get_set_if, upAll, argsT, h0, h1, h2]) ?_
    simp only [opsS_nil, Ex.then, retI, resAs, resA, St.ev, putW, forceA_eq, resPV, upAll, get_set_eq]
    have e : i + (rows.length - j) = n - (j - i) := by omega
    rw [e]
    refine hK _ _ fun b' => ?_
    rw [← e, delRows_eq hij (by omega)]
    simp only [find_upS, upAll]
    by_cases hb : b' = b <;> simp [hb]
  simp only [deleteC, aw, forceN_eq]
  refine opsS_step (e := { v := .emp es }) rfl (by intro f args e; cases e) (by simp [step, Eff.of, St.ev, putW, get_set_if, upAll, argsT]) ?_
  simp only [opsS_nil, Ex.then, putW, upAll]
  refine opsS_step (e := { v := .own b 0 n }) rfl (by intro f args e; cases e) (by simp [step, Eff.of, St.ev, putW, get_set_if, upAll, argsT]) ?_
  refine opsS_step (e := { v := .pv (.int .i64 (i : Int)) }) rfl (by intro f args e; cases e) (by simp [step, Eff.of, St.ev, putW, get_set_if, upAll, argsT]) ?_
  refine opsS_step (e := { v := .pv (.int .i64 (j : Int)) }) rfl (by intro f args e; cases e) (by simp [step, Eff.of, St.ev, putW, get_set_if, upAll, argsT]) ?_
  refine opsS_step (e := { v := .own b 0 n }) rfl (by intro f args e; cases e) (by simp [step, Eff.of, St.ev, putW, get_set_if, upAll, argsT]) ?_
  refine opsS_step (e := { v := .pv (.int .i64 (n : Int)), rd := [b] }) rfl (by intro f args e; cases e) (by simp [step, Eff.of, St.ev, putW, get_set_if, upAll, argsT, AV.e, hf]) ?_
  refine opsS_step (e := { v := .own b i (j - i), rd := [b] }) rfl (by intro f args e; cases e) (by simp [step, Eff.of, St.ev, putW, get_set_if, upAll, argsT, AV.e, hf, optIdx, idxOf, SObj.len, SObj.es]; omega) ?_
  simp only [opsS_nil, Ex.then, putW, upAll]
  refine opsS_step (e := { v := .pv (.int .i64 (i : Int)) }) rfl (by intro f args e; cases e) (by simp [step, Eff.of, St.ev, putW, get_set_if, upAll, argsT]) ?_
  refine opsS_step (e := { v := .pv (.int .i64 (j : Int)) }) rfl (by intro f args e; cases e) (by simp [step, Eff.of, St.ev, putW, get_set_if, upAll, argsT]) ?_
  refine opsS_step (e := { v := .pv (.bool ((i : Int) == (j : Int))) }) rfl (by intro f args e; cases e) (by simp [step, Eff.of, St.ev, putW, get_set_if, upAll, argsT, binop]) ?_
  simp only [opsS_nil, Ex.then, putW, upAll, St.ev, get_set_eq]
  by_cases hlt : i < j
  · have hb : ((i : Int) == (j : Int)) = false := by simp; omega
    rw [hb]
    simp only [condW]
    refine second _ _ hlt ?_ ?_ ?_ <;> simp [get_set_if, argsT]
  · have hb : ((i : Int) == (j : Int)) = true := by simp; omega
    rw [hb]
    simp only [condW]
    refine opsS_step (e := { v := .own b 0 n }) rfl (by intro f args e; cases e) (by simp [step, Eff.of, St.ev, putW, get_set_if, upAll, argsT]) ?_
    refine opsS_step (e := { v := .own b 0 n }) rfl (by intro f args e; cases e) (by simp [step, Eff.of, St.ev, putW, get_set_if, upAll, argsT]) ?_
    simp only [opsS_nil, Ex.then, retI, resAs, resA, St.ev, putW, forceA_eq, resPV, upAll, get_set_eq]
    have hij' : i = j := by omega
    subst hij'
    have e : n - (i - i) = n := by omega
    rw [e] at hK
    refine hK _ _ fun b' => ?_
    simp only [upAll, find_upS, delRows, Nat.sub_self, List.replicate_zero, List.append_nil, List.take_append_drop]
    by_cases hb : b' = b
    · subst hb; simp [hf]
    · simp [hb]

theorem delete_ok {P : Program} (hm : P.follows .mixedOrders = true) {g es bytes : Nat} {zero : List PV} (hk : chkFn P g (deleteC es bytes zero) = true) : PrimOk1 P g (deletePrim es zero) := by
  intro args σ v c es' rows' h B w0 I0 gs w I ι D vs hc ⟨m, hD⟩ hl ha hgs
  obtain ⟨n, i, j, rows, rfl, hf, hn, hij, hjn, hz, rfl, rfl, rfl⟩ := deleteE_spec h
  have hin := (envD_ok (G := ⟨fun _ => none, fun _ => none⟩) hm (ext := fun _ => none) (fun g h e => by cases e) (tab := fun g' => if g' = g then some (deleteC es' bytes zero) else none) (tabI := fun _ => none) (fun g' c e => by
    split at e
    · rename_i hg; cases e; subst hg; exact hk
    · cases e) (fun _ _ e => by cases e) 1).1 g _ (by simp only [envD, if_true]; rfl)
  have := hin [.own c 0 n, .pv (.int .i64 i), .pv (.int .i64 j)] σ m (fun av σ' nx' => av = .own c 0 (n - (j - i)) ∧ ∀ b', find σ' b' = find (upAll σ [(c, some (.arr es' (delRows zero rows i j) false))]) b') (by
    split
    · rw [argsAK_eq]; exact delete_run hf hn hij hjn hz fun σ' nx' h => ⟨rfl, h⟩
    · rename_i hn; simp [deleteC] at hn) B w0 I0 gs w I ι D vs hc hD ⟨fun _ _ h => (by cases h), fun _ _ h => (by cases h)⟩ hl ha hgs
  refine ⟨this.1, CallsIn.mono this.2 fun e w' he => ?_⟩
  cases e with
  | returned v =>
    obtain ⟨av, σ', nx', I', ι', D', ⟨rfl, hσ⟩, hc', hle, hD', hrep, hgl', hgs', hst⟩ := he
    obtain ⟨hS, hL⟩ := hc'.sims.congr (σ' := upAll σ [(c, some (.arr es' (delRows zero rows i j) false))]) fun b => (hσ b).symm
    have hc'' : Core B w0 I0 w' I' ι' (upAll σ [(c, some (.arr es' (delRows zero rows i j) false))]) D' := ⟨hS, hc'.below, hc'.hB, hc'.ext, hc'.old⟩
    have hDc : D c := hc.sims.dom c _ hf
    refine ⟨I', ι', hc.restrict hDc hc'', ?_, fun x a hx => (hgs x a hx).restrict x ((hgs' x a hx).mono hL), hst⟩
    cases hrep.mono hL with
    | own _ h1 h => exact .own hDc h1 h
  | panicked ch => exact he.elim
  | outgrown => exact he.elim
end Go.Ab
