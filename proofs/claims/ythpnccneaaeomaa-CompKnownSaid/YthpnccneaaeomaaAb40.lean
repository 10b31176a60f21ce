/- A law's statement from its contract. Under: nothing. -/
import Derived.Test.YthpnccneaaeomaaAb39
import Derived.WalkKit
import Derived.ProofKit
namespace Go.Ab
open Go.ChangeShapes Go.WideShapes Go.ChangeAt Go.RowKit

inductive ArgsHave : List (Bool × List Ty) → List PV → Prop
  | nil : ArgsHave [] []
  | cons {x : Bool × List Ty} {p : PV} {xs : List (Bool × List Ty)} {ps : List PV} (h : HasArg x p) (hs : ArgsHave xs ps) : ArgsHave (x :: xs) (p :: ps)

theorem args_of_trod {H : Type} {enc : TypeId × Value → H} {P : Program} {w : World} {base : Nat} {spare : Nat → Bool} {held : Bool} {b : Nat} : ∀ {ts : List TypeId} {vs : List Value} {ds : List (DataW H)} {ps : List MemPlace} {tys : List (Bool × List Ty)},
    DataW.TrodAll enc P w base spare held ts vs ds ps → (∀ (j : Nat) t v, ts[j]? = some t → vs[j]? = some v → Value.okWide P w .any b t v) → ts.map (tyArg P) = tys.map some →
    ∃ qs, ArgsHave tys qs ∧ vs.length = qs.length ∧ ∀ (j : Nat) (x : Value) (q : PV), vs[j]? = some x → qs[j]? = some q → RepP w (Iall w) x q
  | [], [], [], _, tys, _, _, hty => by
    cases tys with
    | nil => exact ⟨[], .nil, rfl, fun j x q hx => by simp at hx⟩
    | cons => simp at hty
  | t :: ts, v :: vs, d :: ds, _, tys, ⟨p, q, h1, h2, _⟩, hok, hty => by
    cases tys with
    | nil => simp at hty
    | cons x tys =>
      simp only [List.map_cons, List.cons.injEq] at hty
      obtain ⟨s, tl⟩ := x
      obtain ⟨pv, hrep, hhas⟩ := arg_of_trod (b := b) hty.1 h1 (hok 0 t v rfl rfl)
      obtain ⟨qs, g1, g2, g3⟩ := args_of_trod h2 (fun j t v ht hv => hok (j + 1) t v (by simpa using ht) (by simpa using hv)) hty.2
      refine ⟨pv :: qs, .cons hhas g1, by simp [g2], fun j x q hx hq => ?_⟩
      cases j with
      | zero => simp at hx hq; subst hx; subst hq; exact hrep
      | succ j => exact g3 j x q (by simpa using hx) (by simpa using hq)
  | [], _ :: _, _, _, _, h, _, _ => h.elim
  | [], [], _ :: _, _, _, h, _, _ => h.elim
  | _ :: _, [], _, _, _, h, _, _ => h.elim
  | _ :: _, _ :: _, [], _, _, h, _, _ => h.elim

theorem trodAll_len {H : Type} {enc : TypeId × Value → H} {P : Program} {w : World} {base : Nat} {spare : Nat → Bool} {held : Bool} : ∀ {ts : List TypeId} {vs : List Value} {ds : List (DataW H)} {ps : List MemPlace}, DataW.TrodAll enc P w base spare held ts vs ds ps → ds.length = ts.length
  | [], [], [], _, _ => rfl
  | t :: ts, v :: vs, d :: ds, _, ⟨p, q, h1, h2, _⟩ => by simp [trodAll_len h2]
  | [], _ :: _, _, _, h => h.elim
  | [], [], _ :: _, _, h => h.elim
  | _ :: _, [], _, _, h => h.elim
  | _ :: _, _ :: _, [], _, h => h.elim

/-- A law without package variables. -/
theorem law_calls {H : Type} {enc : TypeId × Value → H} {P : Program} {f : Nat} {fn : Func} {s : ChangeSpec} {apart again : Bool} {tb : TypeId} {W : World} {base : Nat} {args : Array Value} {ds gs : List (DataW H)} {before : List MemPlace} {G : Gl} {tys : List (Bool × List Ty)}
    (hl : laidOutB P = true) (hread : (fn.params.toList.all fun t => P.readableRec t && decide (t < P.types.size)) = true) (hty : fn.params.toList.map (tyArg P) = tys.map some)
    (hvars : s.vars = []) (hres : fn.resultTypes = #[tb]) (htb : P.underlying tb = some .bool) (hspec : ∀ ds : List (DataW H), ds.length = fn.params.size → s.fn H ds = { results := [.lit (.bool true)], args := ds })
    (hval : ∀ (j : Nat) t v, fn.params[j]? = some t → args[j]? = some v → Value.okWide P W .any base t v) (hW : DataW.Whole enc P fn.params.toList s.vars apart W args.toList ds gs before)
    (hG : GlobOk P G W (Iall W)) (hlaw : ∀ ps, ArgsHave tys ps → OkC P G f ps [] (.bool true)) :
    Calls P f args W fun e W' => ∃ v, e = .returned v ∧ s.post enc P fn apart true false again W args v W' := by
  have hW' := hW
  obtain ⟨p, q, hA, hV, rfl, hfz, hnd⟩ := hW
  rw [hvars] at hV
  obtain ⟨rfl, rfl⟩ := trodVars_none hV
  simp only [List.append_nil] at hW'
  have hlen := trodAll_len hA
  obtain ⟨qs, h1, h2, h3⟩ := args_of_trod (b := base) hA (fun j t v ht hv => hval j t v (by simpa using ht) (by simpa using hv)) hty
  have hc := (hlaw qs h1 W (Iall W) args (Iall_bnd W) hG ⟨by simpa using h2, fun j x q hx hq => h3 j x q (by simpa using hx) hq⟩).2
  refine (callsIn_wide.1 hc).mono fun e W' he => ?_
  cases e with
  | returned v =>
    obtain ⟨I', hb, _, _, hr⟩ := he
    obtain ⟨ι₁, _, hrep⟩ := hr 0
    have hv : v = .bool true := inv_bool hrep
    subst hv
    have hds : s.fn H (ds ++ []) = { results := [.lit (.bool true)], args := ds } := by
      rw [List.append_nil]; exact hspec ds (by rw [hlen]; simp)
    refine ⟨_, rfl, post_of_below (pa := p) (pv := []) hW' (fun b sp hd => ?_) (fun sp hsp => ?_) (fun sp _ => ?_) (by simp) hb (ok_one hres rfl (okWide_bool_mk htb _))⟩
    · rw [hres, hds]; exact trodAll_cons_mk (shut_bool htb _) trodAll_mk0
    · rw [hds]
      exact trodAll_below hl hb (fun t ht => by
        have := List.all_eq_true.1 hread t ht
        simpa using this) hA (fun x hx => hW'.lt x hx) hsp
    · rw [hds, hvars]; rfl
  | panicked c => exact he.elim
  | outgrown => exact he.elim
end Go.Ab
