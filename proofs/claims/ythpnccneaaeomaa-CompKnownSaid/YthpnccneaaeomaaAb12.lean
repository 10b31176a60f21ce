/- One operation's soundness: comparisons of structs, literals, least and greatest. Under: nothing. -/
import Derived.Test.YthpnccneaaeomaaAb11
import Derived.Laws.StructEq
import Derived.Great.FillDense
import Derived.ChangeKeysEq
namespace Go.Ab
open Go.RowKit
section
variable {P : Program} {B : Nat} {w0 : World} {I0 : Imm} {w : World} {I : Imm} {ι : Nat → Option Nat} {σ : Store} {D : Nat → Prop} {nm : Nat} {ρ : Operand → Value} {ev : RA → AV} {e : Eff}

def kindOk (P : Program) (t : TypeId) (k : Nat) : Bool := match P.underlying t with
  | some (.int _) => k == 0
  | some .bool => k == 1
  | some .string => k == 2
  | _ => false

def chkFields (P : Program) : List Field → List Nat → Nat → Bool
  | [], [], _ => true
  | f :: fs, k :: ks, j => f.name != "_" && f.offset == j && kindOk P f.type k && chkSize P f.type 1 && chkAgg P f.type false && chkFields P fs ks (j + 1)
  | _, _, _ => false

theorem run_scalar {t : TypeId} {k d : Nat} {a b : AV} {va vb : Value} {r : Bool} (hk : kindOk P t k = true) (h : scalarEq k a b = some r) (ha : RepA w I ι σ D va a) (hb : RepA w I ι σ D vb b) (w₁ : World) :
    (Op.equalIn (d + 1) t va vb).run P w₁ = .ok r w₁ := by
  unfold scalarEq at h
  split at h
  · rw [inv_int ha, inv_int hb]
    split at h
    · rename_i k₁ x k₂ y hkk
      subst hkk; cases h
      unfold kindOk at hk
      split at hk <;> simp_all [Op.equalIn, run_under]
    · cases h
  · rw [inv_bool ha, inv_bool hb]
    cases h
    unfold kindOk at hk
    split at hk <;> simp_all [Op.equalIn, run_under]
  · rw [inv_str ha, inv_str hb]
    rename_i x y
    cases h
    unfold kindOk at hk
    have hb : ((ByteArray.mk x.toArray) == (ByteArray.mk y.toArray)) = (x == y) := by rw [beq_toListBytes, list_beq]
    split at hk <;> simp_all [Op.equalIn, run_under]
  · cases h

theorem run_eqFields {d : Nat} {xs ys : Array Value} : ∀ (fs : List Field) (ks : List Nat) (j : Nat) (as bs : List AV) (r : Bool), chkFields P fs ks j = true → cellsEq ks as bs = some r →
    (∀ i x q, xs[j + i]? = some x → as[i]? = some q → RepA w I ι σ D x q) → (∀ i x q, ys[j + i]? = some x → bs[i]? = some q → RepA w I ι σ D x q) → j + as.length ≤ xs.size → j + bs.length ≤ ys.size →
    ∀ w₁, (Op.eqFields (d + 1) xs ys fs).run P w₁ = .ok r w₁
  | [], [], j, as, bs, r, _, h, _, _, _, _, w₁ => by
    match as, bs, h with
    | [], [], h => simp only [cellsEq] at h; cases h; simp [Op.eqFields]
  | f :: fs, k :: ks, j, as, bs, r, hf, h, hx, hy, lx, ly, w₁ => by
    match as, bs, h with
    | a :: as, b :: bs, h =>
      simp only [cellsEq] at h
      split at h
      · rename_i x hs
        split at h
        · rename_i y hc
          cases h
          simp only [chkFields, Bool.and_eq_true, bne_iff_ne, ne_eq, beq_iff_eq] at hf
          obtain ⟨⟨⟨⟨⟨hn, ho⟩, hk⟩, hsz⟩, hag⟩, hrest⟩ := hf
          have jx : j < xs.size := by simp at lx; omega
          have jy : j < ys.size := by simp at ly; omega
          have gx : xs[j]? = some xs[j] := Array.getElem?_eq_getElem jx
          have gy : ys[j]? = some ys[j] := Array.getElem?_eq_getElem jy
          have px : (part f.type xs f.offset).run P w₁ = .ok xs[j] w₁ := by unfold part; simp [run_isAgg' hag, ho, gx]
          have py : (part f.type ys f.offset).run P w₁ = .ok ys[j] w₁ := by unfold part; simp [run_isAgg' hag, ho, gy]
          have he := run_scalar (P := P) (t := f.type) (d := d) hk hs (hx 0 _ a gx rfl) (hy 0 _ b gy rfl) w₁
          have ih := run_eqFields (d := d) fs ks (j + 1) as bs y hrest hc (fun i x q h1 h2 => hx (i + 1) x q (by rw [← h1]; congr 1; omega) (by simpa using h2))
            (fun i x q h1 h2 => hy (i + 1) x q (by rw [← h1]; congr 1; omega) (by simpa using h2)) (by simp at lx; omega) (by simp at ly; omega) w₁
          rw [Op.eqFields, if_pos hn]
          simp only [Sem.run_bind, px, py, he, Result.andThen_ok]
          cases x
          · simp
          · simpa using ih
        · cases h
      · cases h
  | [], _ :: _, _, _, _, _, hf, _, _, _, _, _, _ => by simp [chkFields] at hf
  | _ :: _, [], _, _, _, _, hf, _, _, _, _, _, _ => by simp [chkFields] at hf

theorem run_eqGuard_agg {op : BinOp} {t : TypeId} {x y : Operand} {xs ys : Array Value} (hg : P.eqGuardType P.depth t = false) : (eqGuard op t x y (.agg xs) (.agg ys)).run P w = .ok () w := by
  unfold eqGuard
  simp [hg]

variable (hc : Core B w0 I0 w I ι σ D) (hev : ∀ o r, chkA o r = true → RepA w I ι σ D (ρ o) (ev r))
include hc hev

theorem snd_eqs {neq : Bool} {kinds : List Nat} {t : TypeId} {x y : Operand} {x' y' : RA} {fields : Array Field} (ht : P.underlying t = some (.struct fields)) (hp : P.stoodInHeld t = false) (hgd : P.eqGuardType P.depth t = false)
    (hf : chkFields P fields.toList kinds 0 = true) (h1 : chkA x x' = true) (h2 : chkA y y' = true) (h : step σ nm ev (.eqs neq kinds x' y') = some e) :
    Good P B w0 I0 w I ι σ D nm e (do pure (.value (← (do eqGuard (if neq then .neq else .eql) t x y (ρ x) (ρ y); binOp (if neq then .neq else .eql) t (ρ x) (ρ y))))) := by
  simp only [step] at h
  split at h
  · rename_i b hb
    split at h
    · rename_i hag
      simp only [Eff.of] at h; cases h
      obtain ⟨xs, ex, sx, rx⟩ := agg_inv (hev _ _ h1) hag.1
      obtain ⟨ys, ey, sy, ry⟩ := agg_inv (hev _ _ h2) hag.2
      have hfo : P.fieldsOf t = fields := by simp [Program.fieldsOf, ht]
      have hE : (Op.equal t (.agg xs) (.agg ys)).run P w = .ok b w := by
        unfold Op.equal Op.maxDepth
        rw [show (10000 : Nat) = 9999 + 1 from rfl, run_equalIn_struct (P := P) w 9999 t xs ys (by rw [hfo]; exact ht) hp, hfo]
        exact run_eqFields (d := 9998) fields.toList kinds 0 _ _ b hf hb (fun i x q h1 h2 => rx i x q (by simpa using h1) h2) (fun i x q h1 h2 => ry i x q (by simpa using h1) h2) (by omega) (by omega) w
      refine good_same (v := .bool (match neq with | true => !b | false => b)) hc ?_ rfl (.pv (.bool _))
      rw [ex, ey]
      cases neq
      · simp [run_eqGuard_agg hgd, binOp, hE]
      · simp [run_eqGuard_agg hgd, binOp, hE]
    · cases h
  · cases h

omit hc hev in
theorem run_eqItems {d : Nat} {el k : Nat} {xs ys : Array Value} (hk : kindOk P el k = true) (hag : chkAgg P el false = true) : ∀ (n j : Nat) (as bs : List AV) (r : Bool), cellsEq (List.replicate n k) as bs = some r →
    (∀ i x q, xs[j + i]? = some x → as[i]? = some q → RepA w I ι σ D x q) → (∀ i x q, ys[j + i]? = some x → bs[i]? = some q → RepA w I ι σ D x q) → j + as.length ≤ xs.size → j + bs.length ≤ ys.size →
    ∀ w₁, (Op.eqItems (d + 1) el 1 xs ys (List.range' j n)).run P w₁ = .ok r w₁
  | 0, j, as, bs, r, h, _, _, _, _, w₁ => by
    match as, bs, h with
    | [], [], h => simp only [List.replicate, cellsEq] at h; cases h; simp [Op.eqItems]
  | n + 1, j, as, bs, r, h, hx, hy, lx, ly, w₁ => by
    match as, bs, h with
    | a :: as, b :: bs, h =>
      simp only [List.replicate, cellsEq] at h
      split at h
      · rename_i x hs
        split at h
        · rename_i y hc
          cases h
          have jx : j < xs.size := by simp at lx; omega
          have jy : j < ys.size := by simp at ly; omega
          have gx : xs[j]? = some xs[j] := Array.getElem?_eq_getElem jx
          have gy : ys[j]? = some ys[j] := Array.getElem?_eq_getElem jy
          have px : (part el xs (j * 1)).run P w₁ = .ok xs[j] w₁ := by unfold part; simp [run_isAgg' hag, gx]
          have py : (part el ys (j * 1)).run P w₁ = .ok ys[j] w₁ := by unfold part; simp [run_isAgg' hag, gy]
          have he := run_scalar (P := P) (t := el) (d := d) hk hs (hx 0 _ a gx rfl) (hy 0 _ b gy rfl) w₁
          have ih := run_eqItems (d := d) hk hag n (j + 1) as bs y hc (fun i x q h1 h2 => hx (i + 1) x q (by rw [← h1]; congr 1; omega) (by simpa using h2))
            (fun i x q h1 h2 => hy (i + 1) x q (by rw [← h1]; congr 1; omega) (by simpa using h2)) (by simp at lx; omega) (by simp at ly; omega) w₁
          show (Op.eqItems (d + 1) el 1 xs ys (j :: List.range' (j + 1) n)).run P w₁ = _
          simp only [Op.eqItems, Sem.run_bind, px, py, he, Result.andThen_ok]
          cases x
          · simp
          · simpa using ih
        · cases h
      · cases h

theorem snd_eqa {neq : Bool} {k len el : Nat} {t : TypeId} {x y : Operand} {x' y' : RA} {ie : TypeInfo} (ht : P.underlying t = some (.array len el)) (hgd : P.eqGuardType P.depth t = false)
    (hi : P.info? el = some ie) (hsz : ie.size = 1) (hk : kindOk P el k = true) (hag : chkAgg P el false = true) (h1 : chkA x x' = true) (h2 : chkA y y' = true) (h : step σ nm ev (.eqs neq (List.replicate len k) x' y') = some e) :
    Good P B w0 I0 w I ι σ D nm e (do pure (.value (← (do eqGuard (if neq then .neq else .eql) t x y (ρ x) (ρ y); binOp (if neq then .neq else .eql) t (ρ x) (ρ y))))) := by
  simp only [step] at h
  split at h
  · rename_i b hb
    split at h
    · rename_i hagg
      simp only [Eff.of] at h; cases h
      obtain ⟨xs, ex, sx, rx⟩ := agg_inv (hev _ _ h1) hagg.1
      obtain ⟨ys, ey, sy, ry⟩ := agg_inv (hev _ _ h2) hagg.2
      have hco : P.cellsOf el = 1 := by simp [Program.cellsOf, hi, hsz]
      have hE : (Op.equal t (.agg xs) (.agg ys)).run P w = .ok b w := by
        unfold Op.equal Op.maxDepth
        rw [show (10000 : Nat) = 9999 + 1 from rfl, run_equalIn_array (P := P) w 9999 xs ys ht hi, hco, List.range_eq_range']
        exact run_eqItems (d := 9998) hk hag len 0 _ _ b hb (fun i x q h1 h2 => rx i x q (by simpa using h1) h2) (fun i x q h1 h2 => ry i x q (by simpa using h1) h2) (by omega) (by omega) w
      refine good_same (v := .bool (match neq with | true => !b | false => b)) hc ?_ rfl (.pv (.bool _))
      rw [ex, ey]
      cases neq
      · simp [run_eqGuard_agg hgd, binOp, hE]
      · simp [run_eqGuard_agg hgd, binOp, hE]
    · cases h
  · cases h

theorem snd_isnil {neq : Bool} {t el : Nat} {x y : Operand} {x' : RA} (ht : P.underlying t = some (.slice el)) (h1 : chkA x x' = true) (hy : ρ y = .slice none 0 0) (h : step σ nm ev (.isnil neq x') = some e) :
    Good P B w0 I0 w I ι σ D nm e (do pure (.value (← (do eqGuard (if neq then .neq else .eql) t x y (ρ x) (ρ y); binOp (if neq then .neq else .eql) t (ρ x) (ρ y))))) := by
  have hx := (hev _ _ h1).e
  have hrun : ∀ (p : Option Addr) (n cap : Nat), ρ x = .slice p n cap → (do pure (.value (← (do eqGuard (if neq then .neq else .eql) t x y (ρ x) (ρ y); binOp (if neq then .neq else .eql) t (ρ x) (ρ y)))) : Sem Next).run P w = .ok (.value (.bool (match neq with | true => !p.isNone | false => p.isNone))) w := by
    intro p n cap e
    rw [e, hy]
    have hE : (Op.equal t (.slice p n cap) (.slice none 0 0)).run P w = .ok p.isNone w := by
      have gen : ∀ d, (Op.equalIn (d + 1) t (.slice p n cap) (.slice none 0 0)).run P w = .ok p.isNone w := by
        intro d
        cases p <;> simp [Op.equalIn, run_under ht]
      exact gen 9999
    cases neq <;> simp [eqGuard, binOp, hE]
  have hany : ∀ (p : Option Addr) (n cap : Nat), ρ x = .slice p n cap → e = { v := .anyB } ∨ (∃ rd, e = { v := .anyB, rd := rd }) → Good P B w0 I0 w I ι σ D nm e (do pure (.value (← (do eqGuard (if neq then .neq else .eql) t x y (ρ x) (ρ y); binOp (if neq then .neq else .eql) t (ρ x) (ρ y))))) := by
    intro p n cap hp he
    have : e.up = [] ∧ e.v = .anyB := by rcases he with rfl | ⟨rd, rfl⟩ <;> exact ⟨rfl, rfl⟩
    exact good_same hc (hrun p n cap hp) this.1 (by rw [this.2]; exact .anyB _)
  have hsome : ∀ (a : Addr) (n cap : Nat), ρ x = .slice (some a) n cap → e.up = [] → e.v = .pv (.bool neq) → Good P B w0 I0 w I ι σ D nm e (do pure (.value (← (do eqGuard (if neq then .neq else .eql) t x y (ρ x) (ρ y); binOp (if neq then .neq else .eql) t (ρ x) (ρ y))))) := by
    intro a n cap hp hu hv
    refine good_same hc (hrun (some a) n cap hp) hu ?_
    rw [hv]
    cases neq <;> exact .pv (.bool _)
  have hpure : ∀ {es : Nat} {rows : List (List PV)}, RepP w I (ρ x) (.sl es rows) → (match rows with | [] => Eff.of .anyB | _ :: _ => Eff.of (.pv (.bool neq))) = some e → Good P B w0 I0 w I ι σ D nm e (do pure (.value (← (do eqGuard (if neq then .neq else .eql) t x y (ρ x) (ρ y); binOp (if neq then .neq else .eql) t (ρ x) (ρ y))))) := by
    intro es rows hr h
    generalize hX : ρ x = X at hr
    cases hr with
    | sl f hl hcap hw hp hrr =>
      cases rows with
      | nil => simp only [Eff.of] at h; cases h; exact hX ▸ hany _ _ _ hX (.inl rfl)
      | cons r rs =>
        simp only [Eff.of] at h; cases h
        obtain ⟨a, rfl, _⟩ := hp (by simp)
        exact hX ▸ hsome a _ _ hX rfl rfl
  simp only [step] at h
  split at h
  · rename_i es he
    rw [he] at hx
    generalize hX : ρ x = X at hx
    cases hx with
    | emp =>
      simp only [Eff.of] at h; cases h
      rw [← hX]
      refine good_same hc (hrun none 0 0 hX) rfl ?_
      cases neq <;> exact .pv (.bool _)
  · rename_i es rows he
    rw [he] at hx
    generalize hX : ρ x = X at hx
    cases hx with
    | fsl hx => exact hX ▸ hpure (hX ▸ hx) h
  · rename_i es rows he
    rw [he] at hx
    have hx' : RepP w I (ρ x) (.sl es rows) := by
      generalize ρ x = X at hx
      cases hx with
      | pv hx => exact hx
    exact hpure hx' h
  · rename_i b i n he
    rw [he] at hx
    split at h
    · rename_i o hf
      generalize hX : ρ x = X at hx
      cases hx with
      | own hD hone hx =>
        obtain ⟨p, cap, rfl, hin, hcap, hcase⟩ := hx o hf
        split at h
        · cases h; exact hX ▸ hany _ _ _ hX (.inr ⟨_, rfl⟩)
        · cases h
          rcases hcase with ⟨h0, _⟩ | ⟨r, c, T, fz, hr, rfl, hheap, hsz⟩
          · omega
          · exact hX ▸ hsome _ _ _ hX rfl rfl
    · cases h
  · cases h
end
end Go.Ab
