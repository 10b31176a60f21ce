/- Clones of slices, said outright. Under: nothing. -/
import Derived.Test.YthpnccneaaeomaaAb37
namespace Go.Ab
open Go.RowKit

/-- The one function's part of 'InlOk'. -/
def InlOk1 (P : Program) (G : Gl) (g : Nat) (h : List AV → Store → Nat → (AV → Store → Nat → Prop) → Prop) : Prop :=
  ∀ (args : List AV) (σ : Store) (nx : Nat) (K : AV → Store → Nat → Prop), h args σ nx K →
    ∀ (B : Nat) (w0 : World) (I0 : Imm) (gs : Value → AV → Prop) (w : World) (I : Imm) (ι : Nat → Option Nat) (D : Nat → Prop) (vs : Array Value), Core B w0 I0 w I ι σ D → (∀ b, D b → b < nx) → GlobOk P G w I →
      vs.size = args.length → (∀ (j : Nat) (x : Value) (q : AV), vs[j]? = some x → args[j]? = some q → RepA w I ι σ D x q) → (∀ x a, gs x a → RepA w I ι σ D x a) →
      (∀ w₁, (callFunc g vs).run P w₁ = .ok (.enter g vs) w₁) ∧ CallsIn Fence.wide 0 P g vs w (InlPost P G B w0 I0 gs D w nx K)

theorem upS_upS : ∀ (s : Store) (b : Nat) (x y : Option SObj), upS (upS s b x) b y = upS s b y
  | [], b, x, y => by simp [upS]
  | (k, o) :: s, b, x, y => by
    simp only [upS]
    cases hk : k == b with
    | true => simp [upS, hk]
    | false => simp only [upS, hk]; rw [upS_upS s]

def cloneC (es bytes : Nat) (zeros : List AV) : RFn := ⟨1, 8, [.tmp 2],
 .seq (.reg [⟨some 2, .mv (.c (.emp es)), none, 0⟩] false)
 (.seq (.seq (.reg [⟨some 3, .mv (.t 0), none, 0⟩,
   ⟨some 4, .isnil false (.t 3), none, 1⟩] false)
 (.cond (.t 4)
  (.seq (.reg [⟨some 2, .mv (.c (.emp es)), none, 0⟩] false)
  (.ret))
  (.skip)))
 (.seq (.reg [⟨some 5, .bsl es 0 zeros [], none, 0⟩,
   ⟨some 6, .mv (.t 0), none, 0⟩,
   ⟨some 7, .append es bytes (.t 5) (.t 6), none, 3⟩,
   ⟨some 2, .mv (.t 7), none, 7⟩] false)
 (.ret)))⟩

def cloneUp (nx es : Nat) (xs : List (List PV)) : List (Nat × Option SObj) := [(nx + 12, none), (nx + 20, some (.arr es xs false))]

def ownLt (a : AV) (nx : Nat) : Bool := match a with
  | .own b _ _ => Nat.blt b nx
  | _ => true

def cloneE (es bytes : Nat) : RunI := fun args σ nx => match args with
  | [a] => (match a.e with
    | .emp _ => some (.emp es, σ, nx + 16)
    | a' => match prowsOf σ es a with
      | some (xs, _) => if xs.length * bytes ≤ 2 ^ 40 ∧ ownLt a' nx = true then upAllK σ (cloneUp nx es xs) fun σ' => some (.own (nx + 20) 0 xs.length, σ', nx + 28) else none
      | none => none)
  | _ => none

theorem SimS.congr {B : Nat} {w : World} {I : Imm} {ι : Nat → Option Nat} {σ σ' : Store} {D : Nat → Prop} (hs : SimS B w I ι σ D) (he : ∀ b, find σ' b = find σ b) : SimS B w I ι σ' D ∧ Later w I ι σ D w I ι σ' D := by
  have hL : Later w I ι σ D w I ι σ' D := ⟨⟨fun _ _ _ hi hx => ⟨hx, hi⟩, fun _ h => h, fun b o' _ ho => by rw [he] at ho; exact ⟨o', ho, rfl, rfl, rfl⟩, fun _ c _ fz h => ⟨c, fz, h, rfl⟩, fun _ _ => rfl⟩, fun _ _ _ h => h⟩
  exact ⟨⟨hs.bnd, fun b o h' => hs.dom b o (by rw [← he]; exact h'), fun b b' o o' r h₁ h₂ => hs.inj b b' o o' r (by rw [← he]; exact h₁) (by rw [← he]; exact h₂),
    fun b o r h' => hs.ge b o r (by rw [← he]; exact h'), fun b o r k h' => hs.sep b o r k (by rw [← he]; exact h'),
    fun b o h' => (hs.obj b o (by rw [← he]; exact h')).mono hL rfl fun _ _ => rfl⟩, hL⟩

theorem opsS_step {G : Gl} {Ok : Nat → List PV → Own → PV → Prop} {E : Env} {r : RIns} {l : List RIns} {nm : Nat} {st : St} {K : St → Prop} (hg : r.guard = none) (hc : ∀ f args, r.op ≠ .call f args) {e : Eff} (he : step st.σ nm (st.ev G) r.op = some e)
    (h : opsS G Ok E l (nm + stride) (putW st r.dst e.v (upAll st.σ e.up)) K) : opsS G Ok E (r :: l) nm st K := by
  simp only [opsS, forceN_eq]
  unfold insS
  split
  · rename_i f args hop; exact absurd hop (hc f args)
  · unfold insW
    rw [hg]
    simp only
    unfold opW
    split
    · rename_i f args hop; exact absurd hop (hc f args)
    · obtain ⟨tm, σ, nx, nt⟩ := st
      simp only at he
      simp only [he, upAllK_eq, putK_eq]
      exact h

theorem opsS_nil {G : Gl} {Ok : Nat → List PV → Own → PV → Prop} {E : Env} {nm : Nat} {st : St} {K : St → Prop} : opsS G Ok E [] nm st K = K st := rfl

theorem get_set_ne {t : T} {n m : Nat} {v : AV} (hn : n < 1024) (hm : m < 1024) (h : m ≠ n) : (t.set tdepth n v).get tdepth m = t.get tdepth m := by
  rw [get_set, if_neg]
  have e1 : m % 2 ^ tdepth = m := Nat.mod_eq_of_lt hm
  have e2 : n % 2 ^ tdepth = n := Nat.mod_eq_of_lt hn
  rw [e1, e2]; exact h

theorem get_set_eq {t : T} {n : Nat} {v : AV} : (t.set tdepth n v).get tdepth n = v := by rw [get_set, if_pos rfl]

/-- The run of a clone, in whatever world. -/
theorem clone_run {P : Program} {G : Gl} {E : Env} {es bytes : Nat} {zeros : List AV} {a : AV} {σ : Store} {nx : Nat} {K : AV → Store → Nat → Prop} (h : extH (cloneE es bytes) [a] σ nx K) :
    aw G (OkC P G) (cloneC es bytes zeros).body false E
      (retI G [.tmp 2] fun av σ' nx' => K av σ' nx' ∨ (av = .emp es ∧ σ' = σ ∧ nx' = nx + 16 ∧ K (.own (nx + 20) 0 0) (upAll σ (cloneUp nx es [])) (nx + 28))) ⟨argsT 0 [a] .nil, σ, nx, 8⟩ := by
  let K' : AV → Store → Nat → Prop := fun av σ' nx' => K av σ' nx' ∨ (av = .emp es ∧ σ' = σ ∧ nx' = nx + 16 ∧ K (.own (nx + 20) 0 0) (upAll σ (cloneUp nx es [])) (nx + 28))
  have second : ∀ (xs : List (List PV)) (rd : List Nat) (tm : T), prowsOf σ es a = some (xs, rd) → (∀ b ∈ rd, b < nx) → xs.length * bytes ≤ 2 ^ 40 → K (.own (nx + 20) 0 xs.length) (upAll σ (cloneUp nx es xs)) (nx + 28) → tm.get tdepth 0 = a →
      aw G (OkC P G) (.seq (.reg [⟨some 5, .bsl es 0 zeros [], none, 0⟩, ⟨some 6, .mv (.t 0), none, 0⟩, ⟨some 7, .append es bytes (.t 5) (.t 6), none, 3⟩, ⟨some 2, .mv (.t 7), none, 7⟩] false) .ret) false E (retI G [.tmp 2] K') ⟨tm, σ, nx + 12, 8⟩ := by
    intro xs rd tm hp hrd hle hK h0
    have hp' : prowsOf (upS σ (nx + 12) (some (.arr es [] false))) es a = some (xs, rd) := prowsOf_frame hp fun b hb => by
      have := hrd b hb
      exact .of_eq (by rw [find_upS, if_neg (by omega)])
    simp only [aw, forceN_eq]
    refine opsS_step (e := { v := .own (nx + 12) 0 0, up := [(nx + 12, some (.arr es [] false))] }) rfl (by intro f args e; cases e) rfl ?_
    refine opsS_step (e := { v := a }) rfl (by intro f args e; cases e) (by simp only [step, Eff.of, St.ev, putW]; rw [get_set_ne (by decide) (by decide) (by decide), h0]) ?_
    refine opsS_step (e := { v := .own (nx + 20) 0 (0 + xs.length), rd := (nx + 12) :: rd, up := [(nx + 12, none), (nx + 20, some (.arr es ([] ++ xs) false))] }) rfl (by intro f args e; cases e) ?_ ?_
    · simp only [step, St.ev, putW, upAll]
      rw [get_set_ne (by decide) (by decide) (by decide), get_set_eq, get_set_eq]
      simp only [AV.e, find_upS, if_true, List.length_nil, and_self, hp', Nat.zero_add, if_pos hle]
      rfl
    refine opsS_step (e := { v := .own (nx + 20) 0 (0 + xs.length) }) rfl (by intro f args e; cases e) (by simp only [step, Eff.of, St.ev, putW]; rw [get_set_eq]) ?_
    simp only [opsS_nil, Ex.then, retI, resAs, resA, St.ev, putW, forceA_eq, resPV, upAll, get_set_eq, upS_upS]
    refine .inl ?_
    simp only [Nat.zero_add, List.nil_append]
    exact hK
  have start : ∀ (isn : AV) (rd : List Nat), (isn = .pv (.bool true) ∨ isn = .pv (.bool false) ∨ isn = .anyB) → (match a.e with
      | .emp _ => Eff.of (.pv (.bool (!false)))
      | .fsl _ rows => (match rows with | [] => Eff.of .anyB | _ :: _ => Eff.of (.pv (.bool false)))
      | .pv (.sl _ rows) => (match rows with | [] => Eff.of .anyB | _ :: _ => Eff.of (.pv (.bool false)))
      | .own b _ n => match find σ b with
        | some _ => (match n with | 0 => some { v := .anyB, rd := [b] } | _ + 1 => some { v := .pv (.bool false), rd := [b] })
        | none => none
      | _ => none) = some { v := isn, rd := rd } →
      (∀ tm : T, tm.get tdepth 0 = a → condW isn (aw G (OkC P G) (.seq (.reg [⟨some 2, .mv (.c (.emp es)), none, 0⟩] false) (.ret)) false E (retI G [.tmp 2] K') ⟨tm, σ, nx + 12, 8⟩)
        (aw G (OkC P G) (.seq (.reg [⟨some 5, .bsl es 0 zeros [], none, 0⟩, ⟨some 6, .mv (.t 0), none, 0⟩, ⟨some 7, .append es bytes (.t 5) (.t 6), none, 3⟩, ⟨some 2, .mv (.t 7), none, 7⟩] false) .ret) false E (retI G [.tmp 2] K') ⟨tm, σ, nx + 12, 8⟩)) →
      aw G (OkC P G) (cloneC es bytes zeros).body false E (retI G [.tmp 2] K') ⟨argsT 0 [a] .nil, σ, nx, 8⟩ := by
    intro isn rd his hisn hc
    have h0 : (argsT 0 [a] T.nil).get tdepth 0 = a := by simp only [argsT]; exact get_set_eq
    simp only [cloneC, aw, forceN_eq]
    refine opsS_step (e := { v := .emp es }) rfl (by intro f args e; cases e) rfl ?_
    simp only [opsS_nil, Ex.then, putW, upAll]
    refine opsS_step (e := { v := a }) rfl (by intro f args e; cases e) (by simp only [step, Eff.of, St.ev]; rw [get_set_ne (by decide) (by decide) (by decide), h0]) ?_
    refine opsS_step (e := { v := isn, rd := rd }) rfl (by intro f args e; cases e) (by simp only [step, St.ev, putW]; rw [get_set_eq]; exact hisn) ?_
    simp only [opsS_nil, Ex.then, putW, upAll, St.ev, get_set_eq]
    have := hc ((((argsT 0 [a] T.nil).set tdepth 2 (.emp es)).set tdepth 3 a).set tdepth 4 isn) (by rw [get_set_ne (by decide) (by decide) (by decide), get_set_ne (by decide) (by decide) (by decide), get_set_ne (by decide) (by decide) (by decide), h0])
    rcases his with rfl | rfl | rfl
    · exact this
    · exact this
    · exact this
  have nilB : ∀ (tm : T), K' (.emp es) σ (nx + 16) → aw G (OkC P G) (.seq (.reg [⟨some 2, .mv (.c (.emp es)), none, 0⟩] false) (.ret)) false E (retI G [.tmp 2] K') ⟨tm, σ, nx + 12, 8⟩ := by
    intro tm hK
    simp only [aw, forceN_eq]
    refine opsS_step (e := { v := .emp es }) rfl (by intro f args e; cases e) rfl ?_
    simp only [opsS_nil, Ex.then, retI, resAs, resA, St.ev, putW, forceA_eq, resPV, upAll, get_set_eq]
    exact hK
  -- what is not nil
  have rest : (match prowsOf σ es a with
      | some (xs, _) => if xs.length * bytes ≤ 2 ^ 40 ∧ ownLt a.e nx = true then upAllK σ (cloneUp nx es xs) fun σ' => some (AV.own (nx + 20) 0 xs.length, σ', nx + 28) else none
      | none => none) = cloneE es bytes [a] σ nx → (∀ e0, a.e ≠ .emp e0) → aw G (OkC P G) (cloneC es bytes zeros).body false E (retI G [.tmp 2] K') ⟨argsT 0 [a] .nil, σ, nx, 8⟩ := by
    intro heq hne
    simp only [extH, ← heq] at h
    cases hp : prowsOf σ es a with
    | none => rw [hp] at h; exact h.elim
    | some r =>
      obtain ⟨xs, rd⟩ := r
      rw [hp] at h
      simp only at h
      by_cases hc : xs.length * bytes ≤ 2 ^ 40 ∧ ownLt a.e nx = true
      · rw [if_pos hc] at h
        simp only [upAllK_eq] at h
        have hp' := hp
        unfold prowsOf at hp'
        have hrd : ∀ b ∈ rd, b < nx := by
          intro b hb
          split at hp'
          · cases hp'; cases hb
          · split at hp' <;> cases hp'; cases hb
          · split at hp' <;> cases hp'; cases hb
          · rename_i b' i n hae
            have hlt : b' < nx := by have := hc.2; rw [hae] at this; simpa [ownLt, Nat.blt_eq] using this
            split at hp'
            · split at hp' <;> cases hp'
              simp at hb; omega
            · cases hp'
          · cases hp'
        have go := fun tm h0 => second xs rd tm hp hrd hc.1 h h0
        have any : xs = [] → ∀ tm : T, tm.get tdepth 0 = a → condW .anyB (aw G (OkC P G) (.seq (.reg [⟨some 2, .mv (.c (.emp es)), none, 0⟩] false) (.ret)) false E (retI G [.tmp 2] K') ⟨tm, σ, nx + 12, 8⟩) (aw G (OkC P G) (.seq (.reg [⟨some 5, .bsl es 0 zeros [], none, 0⟩, ⟨some 6, .mv (.t 0), none, 0⟩, ⟨some 7, .append es bytes (.t 5) (.t 6), none, 3⟩, ⟨some 2, .mv (.t 7), none, 7⟩] false) .ret) false E (retI G [.tmp 2] K') ⟨tm, σ, nx + 12, 8⟩) := by
          intro hx tm h0
          subst hx
          exact ⟨nilB tm (.inr ⟨rfl, rfl, rfl, h⟩), go tm h0⟩
        split at hp'
        · rename_i e0 hae; exact absurd hae (hne e0)
        · rename_i e0 rows hae
          split at hp' <;> cases hp'
          cases xs with
          | nil => exact start .anyB [] (.inr (.inr rfl)) (by rw [hae]; rfl) (any rfl)
          | cons x xs => exact start (.pv (.bool false)) [] (.inr (.inl rfl)) (by rw [hae]; rfl) go
        · rename_i e0 rows hae
          split at hp' <;> cases hp'
          cases xs with
          | nil => exact start .anyB [] (.inr (.inr rfl)) (by rw [hae]; rfl) (any rfl)
          | cons x xs => exact start (.pv (.bool false)) [] (.inr (.inl rfl)) (by rw [hae]; rfl) go
        · rename_i b' i n hae
          split at hp'
          · rename_i e1 rows sl hf
            split at hp' <;> cases hp'
            cases n with
            | zero => exact start .anyB [b'] (.inr (.inr rfl)) (by rw [hae]; simp only [hf]) (any (by simp))
            | succ n => exact start (.pv (.bool false)) [b'] (.inr (.inl rfl)) (by rw [hae]; simp only [hf]) go
          · cases hp'
        · cases hp'
      · rw [if_neg hc] at h; exact h.elim
  cases hae : a.e with
  | emp e0 =>
    simp only [extH, cloneE] at h
    rw [hae] at h
    exact start (.pv (.bool true)) [] (.inl rfl) (by rw [hae]; rfl) fun tm h0 => nilB tm (.inl h)
  | _ => exact rest (by simp only [cloneE, hae]) (fun e0 he => by rw [hae] at he; cases he)

theorem clone_ok {P : Program} {G : Gl} (hm : P.follows .mixedOrders = true) {g es bytes : Nat} {zeros : List AV} (hk : chkFn P g (cloneC es bytes zeros) = true) : InlOk1 P G g (extH (cloneE es bytes)) := by
  intro args σ nx K h B w0 I0 gs w I ι D vs hc hD hgl hl ha hgs
  have hargs : ∃ a, args = [a] := by
    simp only [extH, cloneE] at h
    split at h
    · rename_i heq
      split at heq
      · exact ⟨_, rfl⟩
      · cases heq
    · exact h.elim
  obtain ⟨a, rfl⟩ := hargs
  have hin := (envD_ok (G := G) hm (ext := fun _ => none) (fun g h e => by cases e) (tab := fun g' => if g' = g then some (cloneC es bytes zeros) else none) (tabI := fun _ => none) (fun g' c e => by
    split at e
    · rename_i hg; cases e; subst hg; exact hk
    · cases e) (fun _ _ e => by cases e) 1).1 g _ (by simp only [envD, if_true]; rfl)
  have := hin [a] σ nx (fun av σ' nx' => K av σ' nx' ∨ (av = .emp es ∧ σ' = σ ∧ nx' = nx + 16 ∧ K (.own (nx + 20) 0 0) (upAll σ (cloneUp nx es [])) (nx + 28))) (by
    split
    · rw [argsAK_eq]; exact clone_run h
    · rename_i hn; simp [cloneC] at hn) B w0 I0 gs w I ι D vs hc hD hgl hl ha hgs
  refine ⟨this.1, CallsIn.mono this.2 fun e w' he => ?_⟩
  cases e with
  | returned v =>
    obtain ⟨av, σ', nx', I', ι', D', hK, hc', hle, hD', hrep, hgl', hgs', hst⟩ := he
    rcases hK with hK | ⟨rfl, rfl, rfl, hK⟩
    · exact ⟨av, σ', nx', I', ι', D', hK, hc', hle, hD', hrep, hgl', hgs', hst⟩
    · have hn20 : ¬ D' (nx + 20) := fun h => by
        rcases hD' _ h with h | h
        · have := hD _ h; omega
        · omega
      have h12 : find σ' (nx + 12) = none := by
        cases hf : find σ' (nx + 12) with
        | none => rfl
        | some o => have := hD _ (hc.sims.dom _ _ hf); omega
      obtain ⟨hS, hL⟩ := hc'.sims.empty (nm := nx + 20) (o := .arr es [] false) hn20 rfl rfl
      obtain ⟨hS', hL'⟩ := hS.congr (σ' := upAll σ' (cloneUp nx es [])) (fun b => by
        simp only [cloneUp, upAll, find_upS]
        by_cases e : b = nx + 20
        · simp [e]
        · by_cases e' : b = nx + 12
          · simp [e', h12]
          · simp [e, e'])
      have hLL := hL.trans hL'
      refine ⟨_, _, _, I', _, _, hK, ⟨hS', hc'.below, hc'.hB, hc'.ext, hc'.old⟩, by omega, fun b hb => ?_, ?_, hgl'.mono hLL.keeps, fun x a hx => (hgs' x a hx).mono hLL, hst⟩
      · rcases hb with hb | rfl
        · rcases hD' b hb with h | h
          · exact .inl h
          · exact .inr ⟨h.1, by omega⟩
        · exact .inr ⟨by omega, by omega⟩
      · cases hrep
        refine .own (.inr rfl) rfl fun o ho => ?_
        simp only [cloneUp, upAll, find_upS, if_true] at ho
        cases ho
        exact ⟨none, 0, rfl, by simp [SObj.len], ⟨Nat.le_refl _, Nat.le_refl _⟩, .inl ⟨rfl, rfl⟩⟩
  | panicked ch => exact he.elim
  | outgrown => exact he.elim
end Go.Ab
