/- A frame's end takes the marks. Under: nothing. -/
import Derived.Test.YthpnccneaaeomaaAb33
import Derived.RangeFuncRecord
namespace Go.Ab
open Go.RowKit
section
variable {P : Program} {G : Gl} {B : Nat} {w0 : World} {I0 : Imm} {gh : Gh} {N : Nat → Prop} {s : St} {a : Act} {w : World} {I : Imm} {ι : Nat → Option Nat} {σ : Store} {D : Nat → Prop}

theorem Core.put {r : Nat} {x : Option (List Deferred)} {o' : Obj} (hc : Core B w0 I0 w I ι σ D) (hr : w.heap[r]? = some (.deferred x)) (hB : B ≤ r) : Core B w0 I0 (w.putObj r o') I ι σ D ∧ Later0 w I ι σ D (w.putObj r o') I ι σ D := by
  have ho : ∀ k, k ≠ r → (w.putObj r o').heap[k]? = w.heap[k]? := fun k h => World.putObj_heap_other h
  refine hc.move (fun k o hk hst => ?_) (by simp) ⟨rfl, rfl, rfl, by simp, fun k hk => ho k (by omega)⟩ (fun _ _ => rfl) (fun _ h => h)
  rw [ho k fun e => by subst e; rw [hr] at hk; cases hk; cases hst]
  exact hk

theorem SimX.put_mark {r : Nat} {x : Option (List Deferred)} {o' : Obj} {ds : List Deferred} (h : SimX P G B w0 I0 gh N s a w I ι D) (hr : w.heap[r]? = some (.deferred x)) (hB : B ≤ r) (hd : Marks B gh.keep (w.putObj r o') ds) (hk : ∀ o, ¬ gh.keep r o) :
    SimX P G B w0 I0 gh N s { tmps := a.tmps, defers := ds } (w.putObj r o') I ι D := by
  obtain ⟨hc, hL⟩ := h.core.put (o' := o') hr hB
  refine ⟨hc, h.names, hd, h.size, h.glob.mono hL.keeps, fun t ht => (h.tm t ht).mono0 hL, fun v av hg => (h.ghost v av hg).mono0 hL, h.base, fun r' o hk' => ⟨(h.kept r' o hk').1, ?_⟩, fun p hp => ?_⟩
  · rw [World.putObj_heap_other (k := r') (r := r) fun e => hk o (by rw [← e]; exact hk')]; exact (h.kept r' o hk').2
  · obtain ⟨h1, h2, k, h3, h4⟩ := h.loop p hp
    exact ⟨h1, h2, k, h3, by rw [World.putObj_heap_other fun e => by rw [e, hr] at h4; cases h4]; exact h4⟩

/-- The iterator's frame bears the mark from now on. -/
theorem SimX.enter_loop {gs : Value → AV → Prop} {D0 : Nat → Prop} {n0 : Nat} {keep : Nat → Obj → Prop} {tm : T} {nx nt : Nat} {p : LoopAt} (h : SimX P G B w0 I0 ⟨gs, D0, n0, keep, none⟩ N ⟨tm, σ, nx, nt⟩ a w I ι D) (hnt : nt ≤ 1023) (hB : B ≤ p.l) (hr : w.heap[p.l]? = some (.loop (p.at 0))) :
    SimX P G B w0 I0 ⟨gs, D0, n0, keep, some p⟩ N ⟨tm.set tdepth markT (.mark 0), σ, nx, nt⟩ a w I ι D := by
  refine ⟨h.core, h.names, h.dfs, h.size, h.glob, fun t ht => ?_, h.ghost, h.base, h.kept, fun q hq => ?_⟩
  · simp only [get_set]
    split
    · exact .mark _ _
    · exact h.tm t ht
  · cases hq
    exact ⟨hnt, hB, 0, by simp only [get_set, if_true], hr⟩
end
end Go.Ab
