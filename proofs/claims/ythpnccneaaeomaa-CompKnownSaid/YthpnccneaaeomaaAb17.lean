/- One operation's soundness: append. Under: nothing. -/
import Derived.Test.YthpnccneaaeomaaAb16
namespace Go.Ab
open Go.RowKit
section
variable {P : Program} {B : Nat} {w0 : World} {I0 : Imm} {w w' : World} {I : Imm} {ι : Nat → Option Nat} {σ : Store} {D : Nat → Prop} {nm : Nat} {ρ : Operand → Value} {ev : RA → AV} {e : Eff}

/-- Rows that a slice value shows. -/
def Shows (w : World) (I : Imm) (ι : Nat → Option Nat) (σ : Store) (D : Nat → Prop) (es : Nat) (v : Value) (xs : List (List AV)) : Prop :=
  ∃ p cap, v = .slice p xs.length cap ∧ xs.length ≤ cap ∧ (∀ (i : Nat) (row : List AV), xs[i]? = some row → row.length = es) ∧
    (xs ≠ [] → ∃ a : Addr, p = some a ∧ a.spot = none ∧ ∀ (i j : Nat) (row : List AV) (q : AV), xs[i]? = some row → row[j]? = some q → ∃ x, w.cell? ⟨a.block, a.off + (i * es + j), none⟩ = some x ∧ RepC w I ι σ D x q)

theorem shows_pure {v : Value} {es : Nat} {rows : List (List PV)} (h : RepP w I v (.sl es rows)) : Shows w I ι σ D es v (rows.map (·.map .pv)) := by
  cases h with
  | sl f hl hcap hw hp hr =>
    refine ⟨_, _, by rw [List.length_map, hl], by rw [List.length_map, hl]; exact hcap, fun i row hrow => ?_, fun hne => ?_⟩
    · simp only [List.getElem?_map, Option.map_eq_some_iff] at hrow
      obtain ⟨r, hr', rfl⟩ := hrow
      simpa using hw i r hr'
    · obtain ⟨a, rfl, hs, hcell⟩ := hp (by intro e; subst e; exact hne rfl)
      refine ⟨a, rfl, hs, fun i j row q hrow hq => ?_⟩
      simp only [List.getElem?_map, Option.map_eq_some_iff] at hrow
      obtain ⟨r, hr', rfl⟩ := hrow
      simp only [List.getElem?_map, Option.map_eq_some_iff] at hq
      obtain ⟨q', hq', rfl⟩ := hq
      have hi := (List.getElem?_eq_some_iff.1 hr').1
      have hj := (List.getElem?_eq_some_iff.1 hq').1
      rw [hw i r hr'] at hj
      obtain ⟨h1, h2, h3⟩ := hcell i j hi hj
      exact ⟨f i j, h1, h3, .pv (hr i j r q' hr' hq')⟩

theorem shows_own {b i n : Nat} {o : SObj} {v : Value} (hs : SimS B w I ι σ D) (hf : find σ b = some o) (_hm : o.isMap = false) (hv : OwnVal w ι o b i n v) {xs : List (List AV)} (hlen : xs.length = n)
    (hx : ∀ k, k < n → xs[k]? = o.row? (i + k)) : Shows w I ι σ D o.es v xs := by
  obtain ⟨p, cap, rfl, hin, hcap, hcase⟩ := hv
  have hrow : ∀ k row, xs[k]? = some row → o.row? (i + k) = some row := fun k row h => by rw [← hx k (by have := (List.getElem?_eq_some_iff.1 h).1; omega)]; exact h
  refine ⟨p, cap, by rw [hlen], by omega, fun k row h => ?_, fun hne => ?_⟩
  · obtain ⟨r, c, T, fz, k1, k2, k3, k4, k5, k6⟩ := row_cells hs hf (hrow k row h)
    exact k5
  · have hpos : 0 < n := by rw [← hlen]; exact List.length_pos_iff.2 hne
    rcases hcase with ⟨h0, _⟩ | ⟨r, c, T, fz, hr, rfl, hheap, hsz⟩
    · omega
    · refine ⟨_, rfl, rfl, fun k j row q h hq => ?_⟩
      obtain ⟨r', c', T', fz', k1, k2, k3, k4, k5, k6⟩ := row_cells hs hf (hrow k row h)
      rw [hr] at k1; cases k1
      obtain ⟨x, hx', hrep⟩ := k6 j q hq
      refine ⟨x, ?_, hrep⟩
      rw [cell_of k2]
      rw [← hx']; congr 1
      show i * o.es + (k * o.es + j) = (i + k) * o.es + j
      rw [Nat.add_mul]; omega

theorem rowsOf_spec {es : Nat} {v : Value} {a : AV} {xs : List (List AV)} {rd : List Nat} (hs : SimS B w I ι σ D) (h : rowsOf σ es a = some (xs, rd)) (hv : RepA w I ι σ D v a) : Shows w I ι σ D es v xs := by
  unfold rowsOf at h
  have hv := hv.e
  generalize a.e = a at h hv
  split at h
  · cases h
    cases hv with
    | emp => exact ⟨none, 0, rfl, Nat.le_refl _, fun i row hr => by simp at hr, fun hn => absurd rfl hn⟩
  · split at h
    · rename_i he; subst he; cases h; cases hv with | fsl hv => exact shows_pure hv
    · cases h
  · split at h
    · rename_i he; subst he; cases h; cases hv with | pv hv => exact shows_pure hv
    · cases h
  · rename_i b i n
    cases hv with
    | own hD hone hv =>
      split at h
      · rename_i e' rows sl hf
        split at h
        · rename_i he; subst he; cases h
          obtain ⟨p, cap, hvv, hin, _⟩ := hv _ hf
          simp only [SObj.len] at hin
          refine shows_own hs hf rfl (hv _ hf) (by simp; omega) fun k hk => ?_
          simp only [SObj.row?, List.getElem?_map, List.getElem?_take_of_lt hk, List.getElem?_drop]
          cases rows[i + k]? <;> rfl
        · cases h
      · rename_i e' rows sl hf
        split at h
        · rename_i he; subst he; cases h
          obtain ⟨p, cap, hvv, hin, _⟩ := hv _ hf
          simp only [SObj.len] at hin
          refine shows_own hs hf rfl (hv _ hf) (by simp; omega) fun k hk => ?_
          simp only [SObj.row?, List.getElem?_take_of_lt hk, List.getElem?_drop]
        · cases h
      · cases h
  · cases h

theorem prowsOf_spec {es : Nat} {v : Value} {a : AV} {xs : List (List PV)} {rd : List Nat} (hs : SimS B w I ι σ D) (h : prowsOf σ es a = some (xs, rd)) (hv : RepA w I ι σ D v a) : Shows w I ι σ D es v (xs.map (·.map .pv)) := by
  have : rowsOf σ es a = some (xs.map (·.map .pv), rd) := by
    unfold prowsOf at h
    unfold rowsOf
    generalize a.e = a at h ⊢
    split at h
    · cases h; rfl
    · split at h
      · rename_i he; cases h; simp [he]
      · cases h
    · split at h
      · rename_i he; cases h; simp [he]
      · cases h
    · split at h
      · rename_i hf
        split at h
        · rename_i he; cases h; simp [hf, he]
        · cases h
      · cases h
    · cases h
  exact rowsOf_spec hs this hv

/-- The cells of rows that are shown. -/
theorem run_firstCells {es : Nat} {v : Value} {xs : List (List AV)} (h : Shows w I ι σ D es v xs) :
    ∃ cs, (Builtin.firstCells es xs.length v).run P w = .ok cs w ∧ cs.size = xs.length * es ∧
      ∀ (i j : Nat) (row : List AV) (q : AV), xs[i]? = some row → row[j]? = some q → ∃ x, cs[i * es + j]? = some x ∧ RepC w I ι σ D x q := by
  obtain ⟨p, cap, rfl, hcap, hw, hp⟩ := h
  by_cases hne : xs = []
  · subst hne
    refine ⟨#[], ?_, by simp, fun i j row q hr => by simp at hr⟩
    cases p <;> simp [Builtin.firstCells, loadCells, loadCellsFrom]
  · obtain ⟨a, rfl, hs, hcell⟩ := hp hne
    let f : Nat → Value := fun k => (w.cell? ⟨a.block, a.off + k, none⟩).getD undef
    have hf : ∀ k, k < xs.length * es → w.cell? (a.add k) = some (f k) := by
      intro k hk
      have hes : 0 < es := by rcases Nat.eq_zero_or_pos es with h0 | h0; (rw [h0] at hk; simp at hk); exact h0
      have hi : k / es < xs.length := Nat.div_lt_of_lt_mul (by rw [Nat.mul_comm]; exact hk)
      have hrow := List.getElem?_eq_getElem hi
      have hj : k % es < (xs[k / es]).length := by rw [hw _ _ hrow]; exact Nat.mod_lt _ hes
      obtain ⟨x, hx, _⟩ := hcell _ _ _ _ hrow (List.getElem?_eq_getElem hj)
      rw [Nat.mul_comm, Nat.div_add_mod] at hx
      rw [add_addr' hs]
      simp [f, hx]
    refine ⟨((List.range (xs.length * es)).map f).toArray, ?_, by simp, fun i j row q hr hq => ?_⟩
    · simp only [Builtin.firstCells]
      exact run_loadCells (w := w) a _ f hf
    · obtain ⟨x, hx, hrep⟩ := hcell i j row q hr hq
      refine ⟨x, ?_, hrep⟩
      have hi := (List.getElem?_eq_some_iff.1 hr).1
      have hj : j < es := by rw [← hw i row hr]; exact (List.getElem?_eq_some_iff.1 hq).1
      have hlt : i * es + j < xs.length * es := by
        calc i * es + j < i * es + es := by omega
          _ = (i + 1) * es := by rw [Nat.add_mul, Nat.one_mul]
          _ ≤ xs.length * es := Nat.mul_le_mul_right _ hi
      simp [hlt, f, hx]

theorem growBy_le (newLen : Nat) : ∀ (r c : Nat), Builtin.growBy newLen r c ≤ max c (newLen + (newLen + 768) / 4)
  | 0, c => by simp [Builtin.growBy]; omega
  | r + 1, c => by
    simp only [Builtin.growBy]
    split
    · omega
    · have := growBy_le newLen r (c + (c + 768) / 4)
      omega

theorem nextslicecap_le {n c : Nat} (h : c < n) : Builtin.nextslicecap n c ≤ 2 * n + 192 := by
  unfold Builtin.nextslicecap
  split
  · omega
  · split
    · omega
    · have := growBy_le n 4 c
      omega

/-- What append asks of the types. -/
structure AppT (P : Program) (sT xT el es bytes : Nat) : Prop where
  hs : P.underlying sT = some (.slice el)
  hx : ∃ el', P.underlying xT = some (.slice el')
  info : ∃ i z, P.info? el = some i ∧ i.size = es ∧ i.bytes = bytes ∧ i.zero = some z ∧ z.cells.size = es
  pos : 0 < bytes

/-- Append within the room. -/
theorem run_append_in {sT xT el es bytes ty : Nat} (ht : AppT P sT xT el es bytes) {p : Option Addr} {n cap : Nat} {vx : Value} {xs : List (List AV)} (hx : Shows w I ι σ D es vx xs) (hroom : n + xs.length ≤ cap) {cs : Array Value}
    (hfc : (Builtin.firstCells es xs.length vx).run P w = .ok cs w) {w' : World} (hst : (match p with | some a => storeCells (a.add (n * es)) cs.toList | none => pure ()).run P w = .ok () w') :
    (Builtin.append_ #[sT, xT] ty #[.slice p n cap, vx]).run P w = .ok (.slice p (n + xs.length) cap) w' := by
  obtain ⟨i, z, hi, h1, h2, h3, h4⟩ := ht.info
  obtain ⟨el', hx'⟩ := ht.hx
  obtain ⟨px, capx, rfl, _⟩ := hx
  have hs : chkSize P el es = true := by simp [chkSize, hi, h1]
  unfold Builtin.append_
  simp only [List.getElem?_toArray, List.getElem?_cons_zero, List.getElem?_cons_succ, Sem.run_bind, run_under ht.hs, Result.andThen_ok, run_sizeOf' hs, run_under hx', Sem.run_pure, Bool.false_eq_true, if_false, Builtin.lenOf, Bool.not_false, if_true, hroom, hfc]
  cases p with
  | none => simp at hst; subst hst; simp
  | some a => simp only at hst; simp [hst]

/-- Append with a new block. -/
theorem run_append_grow {sT xT el es bytes ty : Nat} (ht : AppT P sT xT el es bytes) {p : Option Addr} {n cap : Nat} {vx : Value} {xs : List (List AV)} (hx : Shows w I ι σ D es vx xs) (hroom : ¬ n + xs.length ≤ cap) (hbig : (n + xs.length) * bytes ≤ 2 ^ 40) {cs os : Array Value}
    (hfc : (Builtin.firstCells es xs.length vx).run P { w with drawn := w.drawn + 1 } = .ok cs { w with drawn := w.drawn + 1 }) (hfo : (Builtin.firstCells es n (.slice p n cap)).run P { w with drawn := w.drawn + 1 } = .ok os { w with drawn := w.drawn + 1 }) :
    ∃ (newCap : Nat) (rest : Array Value) (w' : World), n + xs.length ≤ newCap ∧ rest.size = (newCap - (n + xs.length)) * es ∧ (Builtin.append_ #[sT, xT] ty #[.slice p n cap, vx]).run P w = .ok (.slice (some ⟨w.heap.size, 0, none⟩) (n + xs.length) newCap) w' ∧
      w'.heap = w.heap.push (Obj.cells (os ++ cs ++ rest) el (0, 0)) ∧ (∀ B w0, B ≤ w.heap.size → Below B w0 w → Below B w0 w') := by
  obtain ⟨i, z, hi, h1, h2, h3, h4⟩ := ht.info
  obtain ⟨el', hx'⟩ := ht.hx
  have hpos := ht.pos
  obtain ⟨px, capx, rfl, _⟩ := hx
  have hs : chkSize P el es = true := by simp [chkSize, hi, h1]
  have hneed : 0 < n + xs.length := by omega
  have hneed2 : n + xs.length ≤ 2 ^ 40 := Nat.le_trans (Nat.le_mul_of_pos_right _ hpos) hbig
  have hb2 : bytes ≤ 2 ^ 40 := Nat.le_trans (Nat.le_mul_of_pos_left _ hneed) hbig
  have hnext : ¬ Builtin.nextslicecap (n + xs.length) cap * bytes > 2 ^ 48 := by
    have h5 := nextslicecap_le (n := n + xs.length) (c := cap) (by omega)
    have h6 : Builtin.nextslicecap (n + xs.length) cap * bytes ≤ (2 * (n + xs.length) + 192) * bytes := Nat.mul_le_mul_right _ h5
    have h7 : (2 * (n + xs.length) + 192) * bytes = 2 * ((n + xs.length) * bytes) + 192 * bytes := by rw [Nat.add_mul, Nat.mul_assoc]
    omega
  have hmax : ¬ (((n + xs.length : Nat) : Int) > IntKind.i64.max ∧ ((false : Bool) = true ∨ bytes = 0)) := by
    rintro ⟨_, h | h⟩
    · cases h
    · omega
  let q : Question := .appendCap (n + xs.length) cap el
  let newCap := q.cut (w.tape w.drawn q)
  have hq : q.forced = false := rfl
  have hcapn : n + xs.length ≤ newCap := by show n + xs.length ≤ (n + xs.length) + _; omega
  refine ⟨newCap, Builtin.zeroCells z.cells (newCap - (n + xs.length)), (({ w with drawn := w.drawn + 1 } : World)).alloc (.cells (os ++ cs ++ Builtin.zeroCells z.cells (newCap - (n + xs.length))) el), hcapn, by simp [Builtin.zeroCells, h4], ?_, rfl, fun B w0 hB hb => (Below.drew hb).alloc hB _⟩
  unfold Builtin.append_
  simp only [List.getElem?_toArray, List.getElem?_cons_zero, List.getElem?_cons_succ, Sem.run_bind, run_under ht.hs, Result.andThen_ok, run_sizeOf' hs, run_under hx', Sem.run_pure, Bool.false_eq_true, if_false, Builtin.lenOf, Bool.not_false, if_true, hroom]
  simp only [typeInfo, Sem.run_bind, run_program, Result.andThen_ok, hi, Sem.run_pure, h2]
  rw [if_neg (by simpa using hmax)]
  simp only [Sem.run_bind, run_program, Result.andThen_ok, hi, Sem.run_pure, h2]
  rw [if_neg hnext]
  have hch : (choose (.appendCap (n + xs.length) cap el)).run P w = .ok newCap { w with drawn := w.drawn + 1 } := by
    rw [run_choose]; simp [hq, q, newCap]
  simp only [Sem.run_bind, hch, Result.andThen_ok, run_program, hi, Sem.run_pure, run_askRoom, hfo, hfc]
  have hzv : ∀ w₁ : World, (zeroValue el).run P w₁ = .ok z w₁ := fun w₁ => by simp [zeroValue, typeInfo, hi, h3]
  simp only [hzv, Sem.run_bind, Result.andThen_ok, newRow, run_newObj, Sem.run_pure]
  rfl

theorem Shows.heap {w' : World} {es : Nat} {v : Value} {xs : List (List AV)} (h : Shows w I ι σ D es v xs) (hw : w'.heap = w.heap) : Shows w' I ι σ D es v xs := by
  obtain ⟨p, cap, e1, e2, e3, e4⟩ := h
  refine ⟨p, cap, e1, e2, e3, fun hne => ?_⟩
  obtain ⟨a, ea, es', hc⟩ := e4 hne
  refine ⟨a, ea, es', fun i j row q h1 h2 => ?_⟩
  obtain ⟨x, hx, hr⟩ := hc i j row q h1 h2
  exact ⟨x, (cell?_of_heap (by rw [hw])).trans hx, hr.mono (later_heap hw)⟩

theorem RowsIn.mono {w' : World} {I' : Imm} {ι' : Nat → Option Nat} {σ' : Store} {D' : Nat → Prop} (hk : Later w I ι σ D w' I' ι' σ' D') {c : Array Value} {es : Nat} {get : Nat → Option (List AV)} (h : RowsIn w I ι σ D c es get) : RowsIn w' I' ι' σ' D' c es get :=
  fun i row hr => ⟨(h i row hr).1, fun j v hv => let ⟨x, hx, hrep⟩ := (h i row hr).2 j v hv; ⟨x, hx, hrep.mono hk⟩⟩

/-- Old rows, new rows, and what lies behind. -/
theorem rowsIn_append {es : Nat} {xs ys : List (List AV)} {os cs rest : Array Value} (ho : os.size = xs.length * es) (_hcs : cs.size = ys.length * es)
    (h1 : ∀ (i : Nat) (row : List AV), xs[i]? = some row → row.length = es) (h2 : ∀ (i : Nat) (row : List AV), ys[i]? = some row → row.length = es)
    (g1 : ∀ (i j : Nat) (row : List AV) (q : AV), xs[i]? = some row → row[j]? = some q → ∃ x, os[i * es + j]? = some x ∧ RepC w I ι σ D x q)
    (g2 : ∀ (i j : Nat) (row : List AV) (q : AV), ys[i]? = some row → row[j]? = some q → ∃ x, cs[i * es + j]? = some x ∧ RepC w I ι σ D x q) :
    RowsIn w I ι σ D (os ++ cs ++ rest) es (fun i => (xs ++ ys)[i]?) := by
  intro i row hr
  dsimp only at hr
  rcases Nat.lt_or_ge i xs.length with hi | hi
  · rw [List.getElem?_append_left hi] at hr
    refine ⟨h1 i row hr, fun j v hv => ?_⟩
    obtain ⟨x, hx, hrep⟩ := g1 i j row v hr hv
    have hlt := (Array.getElem?_eq_some_iff.1 hx).1
    refine ⟨x, ?_, hrep⟩
    rw [Array.append_assoc, Array.getElem?_append_left hlt]; exact hx
  · rw [List.getElem?_append_right hi] at hr
    refine ⟨h2 _ row hr, fun j v hv => ?_⟩
    obtain ⟨x, hx, hrep⟩ := g2 _ j row v hr hv
    have hlt := (Array.getElem?_eq_some_iff.1 hx).1
    refine ⟨x, ?_, hrep⟩
    have e1 : i * es + j = os.size + ((i - xs.length) * es + j) := by
      rw [ho]
      have : i = xs.length + (i - xs.length) := by omega
      conv => lhs; rw [this, Nat.add_mul]
      omega
    rw [Array.append_assoc, Array.getElem?_append_right (by omega), e1, Nat.add_sub_cancel_left, Array.getElem?_append_left hlt]
    exact hx

end
end Go.Ab
