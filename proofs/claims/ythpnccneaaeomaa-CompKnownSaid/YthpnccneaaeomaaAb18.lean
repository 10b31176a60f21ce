/- One operation's soundness: append, over the invariant. Under: nothing. -/
import Derived.Test.YthpnccneaaeomaaAb17
namespace Go.Ab
open Go.RowKit
section
variable {P : Program} {B : Nat} {w0 : World} {I0 : Imm} {w w' : World} {I : Imm} {ι : Nat → Option Nat} {σ : Store} {D : Nat → Prop} {nm : Nat} {ρ : Operand → Value} {ev : RA → AV} {e : Eff}

theorem all_one {es : Nat} {xs : List (List AV)} {cs : Array Value} (hcs : cs.size = xs.length * es) (hw : ∀ (i : Nat) (row : List AV), xs[i]? = some row → row.length = es)
    (g : ∀ (i j : Nat) (row : List AV) (q : AV), xs[i]? = some row → row[j]? = some q → ∃ x, cs[i * es + j]? = some x ∧ RepC w I ι σ D x q) : ∀ x ∈ cs.toList, x.oneCell' = true := by
  intro x hx
  obtain ⟨k, hk⟩ := List.getElem?_of_mem hx
  have hk' : cs[k]? = some x := by simpa using hk
  have hlt : k < xs.length * es := by rw [← hcs]; exact (Array.getElem?_eq_some_iff.1 hk').1
  have hes : 0 < es := by rcases Nat.eq_zero_or_pos es with h0 | h0; (rw [h0] at hlt; simp at hlt); exact h0
  have hi : k / es < xs.length := Nat.div_lt_of_lt_mul (by rw [Nat.mul_comm]; exact hlt)
  have hrow := List.getElem?_eq_getElem hi
  have hj : k % es < (xs[k / es]).length := by rw [hw _ _ hrow]; exact Nat.mod_lt _ hes
  obtain ⟨y, hy, hrep⟩ := g _ _ _ _ hrow (List.getElem?_eq_getElem hj)
  rw [Nat.mul_comm, Nat.div_add_mod, hk'] at hy
  cases hy
  exact hrep.1

theorem heap_drew : ({ w with drawn := w.drawn + 1 } : World).heap = w.heap := rfl

/-- Append to the end of an own block: the old name dies. -/
theorem app_own {sT xT el es bytes ty b n : Nat} {o o' : SObj} {olds xs : List (List AV)} {vs vx : Value} {rd : List Nat} (hc : Core B w0 I0 w I ι σ D) (hn : ¬ D nm) (ht : AppT P sT xT el es bytes)
    (hf : find σ b = some o) (hm : o.isMap = false) (hm' : o'.isMap = false) (hes : o.es = es) (hes' : o'.es = es) (hsl : o'.sealed = o.sealed) (hlen : o.len = n) (hlen' : o'.len = n + xs.length)
    (hol : olds.length = n) (hor : ∀ i, i < n → olds[i]? = o.row? i) (hrow' : ∀ i, o'.row? i = (olds ++ xs)[i]?) (hvs : RepA w I ι σ D vs (.own b 0 n)) (hx : Shows w I ι σ D es vx xs) (hbig : (n + xs.length) * bytes ≤ 2 ^ 40)
    (he : e = { v := .own nm 0 (n + xs.length), rd := rd, up := [(b, none), (nm, some o')] }) :
    Good P B w0 I0 w I ι σ D nm e (do pure (.value (← Builtin.append_ #[sT, xT] ty #[vs, vx]))) := by
  subst he
  cases hvs with
  | own hDb hone hvs =>
  have hov := hvs o hf
  have hshow : Shows w I ι σ D es vs olds := by
    have := shows_own hc.sims hf hm hov hol (fun k hk => by rw [hor k hk]; simp)
    rwa [hes] at this
  obtain ⟨p, cap, rfl, hin, hcap, hcase⟩ := hov
  have hkill := hc.sims.kill b
  have hLk : Later w I ι σ D w I ι (upS σ b none) D := later_kill b
  obtain ⟨pS, capS, eS, _, hwo, _⟩ := hshow
  have hshow : Shows w I ι σ D es (.slice p n cap) olds := by
    have := shows_own hc.sims hf hm (hvs o hf) hol (fun k hk => by rw [hor k hk]; simp)
    rwa [hes] at this
  have hwx : ∀ (i : Nat) (row : List AV), xs[i]? = some row → row.length = es := by obtain ⟨_, _, _, _, h, _⟩ := hx; exact h
  by_cases hroom : n + xs.length ≤ cap
  · obtain ⟨cs, hfc, hcs, hg⟩ := run_firstCells (P := P) hx
    rcases hcase with ⟨h0, hc0⟩ | ⟨r, c, T, fz, hr, rfl, hheap, hsz⟩
    · -- nothing to nothing
      have hx0 : xs = [] := List.eq_nil_of_length_eq_zero (by omega)
      subst hx0
      have hcs0 : cs = #[] := Array.eq_empty_of_size_eq_zero (by simpa using hcs)
      subst hcs0
      have hrun := run_append_in (ty := ty) ht (p := p) (n := n) hx hroom hfc (w' := w) (by cases p <;> simp [storeCells])
      obtain ⟨hS, hL⟩ := hkill.empty (nm := nm) (o := o') hn hm' (by simp [hlen', h0])
      refine ⟨_, .slice p (n + 0) cap, w, by simpa using congrArg (fun r => r.andThen fun a w' => Result.ok (Next.value a) w') hrun, .inl rfl, I, setι ι nm none, addD D nm, ⟨hS, hc.below, hc.hB, hc.ext, hc.old⟩, hLk.trans hL, ?_, ?_⟩
      · refine .own (.inr rfl) rfl fun o₁ ho₁ => ?_
        exact ⟨p, cap, by simp, by
          simp only [upAll] at ho₁
          rw [find_upS, if_pos rfl] at ho₁; cases ho₁
          simp [hlen'], ⟨by simpa using hcap.1, by
          simp only [upAll] at ho₁
          rw [find_upS, if_pos rfl] at ho₁; cases ho₁
          have := hcap.1
          simp only [hlen', h0, List.length_nil]; omega⟩, .inl ⟨by simp [h0], hc0⟩⟩
      · rintro b' (h | rfl)
        · exact .inl h
        · exact .inr ⟨Nat.le_refl _, by simp [stride]⟩
    · -- in place
      have hgB : B ≤ r := hc.sims.ge b o r hf hr
      have hobj := hc.sims.obj b o hf
      have hR : RowsRep w I ι σ D b o := by
        cases o with
        | map ents => simp [SObj.isMap] at hm
        | arr e' rs s => exact hobj
        | box e' rs s => exact hobj
      rcases hR with ⟨h1, _⟩ | ⟨r', c', T', fz', k1, k2, k3, k4, k5⟩
      · rw [hr] at h1; cases h1
      rw [hr] at k1; cases k1
      rw [hheap] at k2; cases k2
      rw [hes] at k4 hsz
      have hfit : n * es + 0 + cs.toList.length ≤ c.size := by
        have h1 : (n + xs.length) * es ≤ cap * es := Nat.mul_le_mul_right _ hroom
        rw [Nat.add_mul] at h1
        have : cs.toList.length = cs.size := by simp
        simp only [Nat.zero_add] at hsz
        omega
      obtain ⟨w', c', s1, s2, s3, s4, s5, s6⟩ := run_storeCells' (P := P) r (n * es) cs.toList 0 c T fz w hheap k3 hfit (all_one hcs hwx hg) hgB hc.below
      have hrun := run_append_in (ty := ty) ht (p := some ⟨r, 0 * o.es, none⟩) (n := n) hx hroom hfc (w' := w') (by simp only [Nat.zero_mul, add_addr, Nat.zero_add]; exact s1)
      simp only [Nat.add_zero] at s3
      have hcl : cs.toList.length = xs.length * es := by simpa using hcs
      obtain ⟨hS, hL⟩ := hc.sims.extend (nm := nm) (o' := o') (c' := c') (w' := w') hf hr hn hm' (by rw [hes', hes]) hsl (by omega) k3 hheap s2 s3.1 s5
        (fun k hk => by rw [s3.2, if_neg]; rw [hlen, hes] at hk; omega)
        (by rw [hlen', hes']; have h1 : (n + xs.length) * es ≤ cap * es := Nat.mul_le_mul_right _ hroom
            simp only [Nat.zero_add] at hsz; omega) s4
        (fun i row hrw => by
          rw [hrow' i] at hrw
          rw [hes']
          rcases Nat.lt_or_ge i olds.length with hi | hi
          · rw [List.getElem?_append_left hi, hor i (by omega)] at hrw
            obtain ⟨q1, q2⟩ := k5 i row hrw
            refine ⟨by rw [q1, hes], fun j v hv => ?_⟩
            obtain ⟨x, hx', hrep⟩ := q2 j v hv
            rw [hes] at hx'
            have hj : j < es := by rw [← hes, ← q1]; exact (List.getElem?_eq_some_iff.1 hv).1
            refine ⟨x, ?_, hrep⟩
            rw [s3.2, if_neg]; exact hx'
            have : (i + 1) * es ≤ n * es := Nat.mul_le_mul_right _ (by omega)
            rw [Nat.add_mul, Nat.one_mul] at this; omega
          · rw [List.getElem?_append_right hi] at hrw
            refine ⟨hwx _ row hrw, fun j v hv => ?_⟩
            obtain ⟨x, hx', hrep⟩ := hg _ j row v hrw hv
            refine ⟨x, ?_, hrep⟩
            have e1 : i * es + j = n * es + ((i - olds.length) * es + j) := by
              have : i = n + (i - olds.length) := by omega
              conv => lhs; rw [this, Nat.add_mul]
              omega
            have hlt := (Array.getElem?_eq_some_iff.1 hx').1
            rw [s3.2, e1, if_pos ⟨by omega, by rw [hcl, ← hcs]; omega⟩, Nat.add_sub_cancel_left]
            simpa using hx')
      refine ⟨_, .slice (some ⟨r, 0 * o.es, none⟩) (n + xs.length) cap, w', by simpa using congrArg (fun r => r.andThen fun a w' => Result.ok (Next.value a) w') hrun, .inl rfl, I, setι ι nm (some r), addD D nm, ⟨hS, s6, hc.hB, hc.ext, hc.old⟩, hL, ?_, ?_⟩
      · refine .own (.inr rfl) rfl fun o₁ ho₁ => ?_
        simp only [upAll] at ho₁
        rw [find_upS, if_pos rfl] at ho₁; cases ho₁
        exact ⟨_, cap, rfl, by omega, ⟨hroom, by omega⟩, .inr ⟨r, c', T, fz, by simp [setι], by simp, s2, by rw [hes', s3.1]; simpa using hsz⟩⟩
      · rintro b' (h | rfl)
        · exact .inl h
        · exact .inr ⟨Nat.le_refl _, by simp [stride]⟩
  · -- a new block
    obtain ⟨cs, hfc, hcs, hg⟩ := run_firstCells (P := P) (w := { w with drawn := w.drawn + 1 }) (hx.heap heap_drew)
    obtain ⟨os, hfo, hos, hgo⟩ := run_firstCells (P := P) (w := { w with drawn := w.drawn + 1 }) (hshow.heap heap_drew)
    rw [hol] at hfo hos
    obtain ⟨newCap, rest, w', hnc, hrest, hrun, hheap, hbel⟩ := run_append_grow (ty := ty) ht hx hroom hbig hfc hfo
    have hLd : Later { w with drawn := w.drawn + 1 } I ι σ D w I ι σ D := later_heap rfl
    have hrows : RowsIn w I ι σ D (os ++ cs ++ rest) es (fun i => (olds ++ xs)[i]?) := by
      have := rowsIn_append (w := { w with drawn := w.drawn + 1 }) (I := I) (ι := ι) (σ := σ) (D := D) (rest := rest) (es := es) (by rw [hol]; exact hos) hcs hwo hwx hgo hg
      exact this.mono hLd
    have hBw : B ≤ w.heap.size := Nat.le_trans hc.hB hc.below.size
    have hS := hkill.new (nm := nm) (o := o') (w' := w') hBw hn hheap (.inr (Nat.le_refl _)) hm' (by
      rw [hlen', hes']; simp only [Array.size_append, hos, hcs]; rw [Nat.add_mul]; omega)
      (fun i row hrw => by
        rw [hrow' i] at hrw
        rw [hes']
        exact (hrows.mono hLk) i row hrw)
    have hL := hLk.trans (later_new (nm := nm) (x := some w.heap.size) (o := o') hn hkill.bnd hheap)
    refine ⟨_, .slice (some ⟨w.heap.size, 0, none⟩) (n + xs.length) newCap, w', by simpa using congrArg (fun r => r.andThen fun a w' => Result.ok (Next.value a) w') hrun, .inl rfl, I, setι ι nm (some w.heap.size), addD D nm, ⟨hS, hbel B w0 hBw hc.below, hc.hB, hc.ext, hc.old⟩, hL, ?_, ?_⟩
    · refine rep_newown (c := os ++ cs ++ rest) (T := el) (fz := (0, 0)) (.inr rfl) (by simp [setι]) (by rw [hheap]; simp) (by omega) hnc ?_
      rw [hes']
      simp only [Array.size_append, hos, hcs, hrest]
      rw [Nat.sub_mul, Nat.add_mul]
      have : (n + xs.length) * es ≤ newCap * es := Nat.mul_le_mul_right _ hnc
      rw [Nat.add_mul] at this
      omega
    · rintro b' (h | rfl)
      · exact .inl h
      · exact .inr ⟨Nat.le_refl _, by simp [stride]⟩


/-- Append within the room that an own block has behind the slice. -/
theorem app_in {sT xT el es bytes ty b n : Nat} {rows xs : List (List PV)} {vs vx : Value} {rd : List Nat} (hc : Core B w0 I0 w I ι σ D) (ht : AppT P sT xT el es bytes)
    (hf : find σ b = some (.arr es rows false)) (hvs : RepA w I ι σ D vs (.own b 0 n)) (hx : Shows w I ι σ D es vx (xs.map (·.map .pv))) (hfit0 : n + xs.length ≤ rows.length) (hpos : 0 < rows.length)
    (he : e = { v := .own b 0 (n + xs.length), rd := rd, up := [(b, some (.arr es (rows.take n ++ xs ++ rows.drop (n + xs.length)) false))] }) :
    Good P B w0 I0 w I ι σ D nm e (do pure (.value (← Builtin.append_ #[sT, xT] ty #[vs, vx]))) := by
  subst he
  cases hvs with
  | own hD hone hvs =>
  obtain ⟨p, cap, rfl, hin, ⟨hcap, hend⟩, hcase⟩ := hvs _ hf
  simp only [SObj.len, SObj.es] at hin hend hcase
  have hwx : ∀ (i : Nat) (row : List AV), (xs.map (·.map AV.pv))[i]? = some row → row.length = es := by obtain ⟨_, _, _, _, h, _⟩ := hx; exact h
  obtain ⟨cs, hfc, hcs, hg⟩ := run_firstCells (P := P) hx
  have hxl : (xs.map (·.map AV.pv)).length = xs.length := by simp
  have hroom : n + (xs.map (·.map AV.pv)).length ≤ cap := by rw [hxl]; omega
  rcases hcase with ⟨h0, h1⟩ | ⟨r, c, T, fz, hr, rfl, hheap, hsz⟩
  · omega
  have hobj := hc.sims.obj b _ hf
  rcases hobj with ⟨h1, _⟩ | ⟨r', c', T', fz', k1, k2, k3, k4, k5⟩
  · rw [hr] at h1; cases h1
  rw [hr] at k1; cases k1
  rw [hheap] at k2; cases k2
  simp only [SObj.len, SObj.es] at k4 k5
  rw [hxl] at hcs
  have hcl : cs.toList.length = xs.length * es := by simpa using hcs
  have hfit : n * es + 0 + cs.toList.length ≤ c.size := by
    have h1 : (n + xs.length) * es ≤ rows.length * es := Nat.mul_le_mul_right _ hfit0
    rw [Nat.add_mul] at h1; omega
  have hgB : B ≤ r := hc.sims.ge b _ r hf hr
  obtain ⟨w', c', s1, s2, s3, s4, s5, s6⟩ := run_storeCells' (P := P) r (n * es) cs.toList 0 c T fz w hheap k3 hfit (all_one (by rw [hxl]; exact hcs) hwx hg) hgB hc.below
  have hrun := run_append_in (ty := ty) ht (p := some ⟨r, 0 * es, none⟩) (n := n) hx hroom hfc (w' := w') (by simp only [Nat.zero_mul, add_addr, Nat.zero_add]; exact s1)
  simp only [Nat.add_zero] at s3
  have hlen' : (rows.take n ++ xs ++ rows.drop (n + xs.length)).length = rows.length := by simp; omega
  have hget : ∀ i', (rows.take n ++ xs ++ rows.drop (n + xs.length))[i']? = if n ≤ i' ∧ i' < n + xs.length then xs[i' - n]? else rows[i']? := by
    intro i'
    have hl1 : (rows.take n).length = n := by simp; omega
    by_cases hlt : i' < n
    · rw [if_neg (by omega), List.append_assoc, List.getElem?_append_left (by omega), List.getElem?_take_of_lt hlt]
    · by_cases hlt2 : i' < n + xs.length
      · rw [if_pos ⟨by omega, hlt2⟩, List.append_assoc, List.getElem?_append_right (by omega), hl1, List.getElem?_append_left (by omega)]
      · rw [if_neg (by omega), List.getElem?_append_right (by simp; omega), List.getElem?_drop]
        congr 1; simp; omega
  obtain ⟨hS, hL⟩ := hc.sims.write (o' := .arr es (rows.take n ++ xs ++ rows.drop (n + xs.length)) false) (c' := c') (w' := w') hf hr rfl rfl rfl hlen' k3 k4 hheap s2 s3.1 s5 s4 (fun i' row hrw => by
    simp only [SObj.row?, SObj.es] at hrw ⊢
    split at hrw
    · rename_i pr hpr
      cases hrw
      rw [hget] at hpr
      by_cases hin' : n ≤ i' ∧ i' < n + xs.length
      · rw [if_pos hin'] at hpr
        have hpr' : (xs.map (·.map AV.pv))[i' - n]? = some (pr.map AV.pv) := by
          rw [List.getElem?_map, hpr]; rfl
        refine ⟨hwx _ _ hpr', fun j v hv => ?_⟩
        obtain ⟨x, hx', hrep⟩ := hg (i' - n) j _ v hpr' hv
        refine ⟨x, ?_, hrep⟩
        have e1 : i' * es + j = n * es + ((i' - n) * es + j) := by
          have : i' = n + (i' - n) := by omega
          conv => lhs; rw [this, Nat.add_mul]
          omega
        have hlt := (Array.getElem?_eq_some_iff.1 hx').1
        rw [s3.2, e1, if_pos ⟨by omega, by rw [hcl, ← hcs]; omega⟩, Nat.add_sub_cancel_left]
        simpa using hx'
      · rw [if_neg hin'] at hpr
        obtain ⟨q1, q2⟩ := k5 i' (pr.map .pv) (by simp [SObj.row?, hpr])
        refine ⟨q1, fun j v hv => ?_⟩
        obtain ⟨x, hx', hrep⟩ := q2 j v hv
        have hj : j < es := by rw [← q1]; exact (List.getElem?_eq_some_iff.1 hv).1
        refine ⟨x, ?_, hrep⟩
        rw [s3.2, if_neg]; exact hx'
        rw [hcl]
        rintro ⟨g1, g2⟩
        rcases Nat.lt_or_ge i' n with hlt | hge
        · have : (i' + 1) * es ≤ n * es := Nat.mul_le_mul_right _ hlt
          rw [Nat.add_mul, Nat.one_mul] at this; omega
        · have : (n + xs.length) * es ≤ i' * es := Nat.mul_le_mul_right _ (by omega)
          rw [Nat.add_mul] at this; omega
    · cases hrw)
  refine ⟨_, .slice (some ⟨r, 0 * es, none⟩) (n + xs.length) cap, w', by simpa using congrArg (fun r => r.andThen fun a w' => Result.ok (Next.value a) w') hrun, .inl rfl, I, ι, D, ⟨hS, s6, hc.hB, hc.ext, hc.old⟩, hL, ?_, fun _ h => .inl h⟩
  refine .own hD rfl fun o₁ ho₁ => ?_
  simp only [upAll] at ho₁
  rw [find_upS, if_pos rfl] at ho₁; cases ho₁
  refine ⟨_, cap, rfl, by simp only [SObj.len]; omega, ⟨by omega, by simp only [SObj.len]; omega⟩, .inr ⟨r, c', T, fz, hr, by simp [SObj.es], s2, ?_⟩⟩
  simp only [SObj.es]
  rw [s3.1]; exact hsz
end
end Go.Ab
