/- One operation's soundness: numbers, strings, parts of values, addresses. Under: nothing. -/
import Derived.Test.YthpnccneaaeomaaAb7
namespace Go.Ab
open Go.RowKit
section
variable {P : Program} {B : Nat} {w0 : World} {I0 : Imm} {w : World} {I : Imm} {ι : Nat → Option Nat} {σ : Store} {D : Nat → Prop} {nm : Nat} {ρ : Operand → Value} {ev : RA → AV} {e : Eff}

theorem bt_loop (bs : ByteArray) : ∀ (n i : Nat) (r : List UInt8), bs.size - i = n → ByteArray.toList.loop bs i r = r.reverse ++ bs.data.toList.drop i := by
  intro n
  induction n with
  | zero =>
    intro i r h
    unfold ByteArray.toList.loop
    rw [if_neg (by omega)]
    have : bs.data.toList.drop i = [] := List.drop_eq_nil_of_le (by show bs.data.size ≤ i; have : bs.size = bs.data.size := rfl; omega)
    simp [this]
  | succ n ih =>
    intro i r h
    unfold ByteArray.toList.loop
    have hlt : i < bs.data.toList.length := by show i < bs.data.size; have : bs.size = bs.data.size := rfl; omega
    rw [if_pos (by omega), ih (i + 1) _ (by omega), List.drop_eq_getElem_cons hlt]
    have : bs.get! i = bs.data.toList[i] := by
      simp [ByteArray.get!]; rw [getElem!_pos bs.data i hlt]
    simp [this]
theorem bt (bs : ByteArray) : bs.toList = bs.data.toList := by
  unfold ByteArray.toList
  rw [bt_loop bs _ 0 [] rfl]; simp

theorem list_beq (a b : List UInt8) : ((ByteArray.mk a.toArray).toList == (ByteArray.mk b.toArray).toList) = (a == b) := by
  rw [bt, bt]

theorem size_mk (l : List UInt8) : (ByteArray.mk l.toArray).size = l.length := by simp [ByteArray.size]

theorem append_mk (a b : List UInt8) : (ByteArray.mk a.toArray) ++ (ByteArray.mk b.toArray) = ⟨(a ++ b).toArray⟩ := by
  apply ByteArray.ext; simp

theorem run_binop {op : BinOp} {t : TypeId} {x y v : AV} {vx vy : Value} (h : binop op x y = some v) (hx : RepA w I ι σ D vx x) (hy : RepA w I ι σ D vy y) :
    ∃ r, (binOp op t vx vy).run P w = .ok r w ∧ RepA w I ι σ D r v ∧ (∀ cs, vx ≠ .agg cs) ∧ vx ≠ .nilIface := by
  unfold binop at h
  split at h
  · rename_i k a k' b
    rw [inv_int hx, inv_int hy]
    split at h
    · rename_i hk
      subst hk
      split at h
      case h_1 => cases h; exact ⟨.int k (k.wrap (a + b)), by simp [binOp, Op.intArith], .pv (.int _ _), by simp, by simp⟩
      case h_2 => cases h; exact ⟨.int k (k.wrap (a - b)), by simp [binOp, Op.intArith], .pv (.int _ _), by simp, by simp⟩
      case h_3 => cases h; exact ⟨.int k (k.wrap (a * b)), by simp [binOp, Op.intArith], .pv (.int _ _), by simp, by simp⟩
      case h_4 =>
        split at h
        · cases h
        · rename_i hb; cases h; exact ⟨.int k (k.wrap (a.tdiv b)), by simp [binOp, Op.intDiv, hb], .pv (.int _ _), by simp, by simp⟩
      case h_5 =>
        split at h
        · cases h
        · rename_i hb; cases h; exact ⟨.int k (a.tmod b), by simp [binOp, Op.intDiv, hb], .pv (.int _ _), by simp, by simp⟩
      case h_6 => cases h; exact ⟨.bool (a == b), by simp [binOp, Op.intCmp], .pv (.bool _), by simp, by simp⟩
      case h_7 => cases h; exact ⟨.bool (a != b), by simp [binOp, Op.intCmp], .pv (.bool _), by simp, by simp⟩
      case h_8 => cases h; exact ⟨.bool (decide (a < b)), by simp [binOp, Op.intCmp], .pv (.bool _), by simp, by simp⟩
      case h_9 => cases h; exact ⟨.bool (decide (a ≤ b)), by simp [binOp, Op.intCmp], .pv (.bool _), by simp, by simp⟩
      case h_10 => cases h; exact ⟨.bool (decide (a > b)), by simp [binOp, Op.intCmp], .pv (.bool _), by simp, by simp⟩
      case h_11 => cases h; exact ⟨.bool (decide (a ≥ b)), by simp [binOp, Op.intCmp], .pv (.bool _), by simp, by simp⟩
      case h_12 => cases h
    · cases h
  · rename_i a b
    rw [inv_str hx, inv_str hy]; cases h
    exact ⟨.bool (a == b), by simp only [binOp, Op.stringOp, list_beq]; rfl, .pv (.bool _), by simp, by simp⟩
  · rename_i a b
    rw [inv_str hx, inv_str hy]; cases h
    exact ⟨.bool (!(a == b)), by simp only [binOp, Op.stringOp, list_beq]; rfl, .pv (.bool _), by simp, by simp⟩
  · rename_i a b
    rw [inv_str hx, inv_str hy]
    split at h
    · rename_i hlt
      cases h
      refine ⟨.string ⟨(a ++ b).toArray⟩, ?_, .pv (.str' (by simp)), by simp, by simp⟩
      have : ¬ (((ByteArray.mk a.toArray).size + (ByteArray.mk b.toArray).size : Nat) : Int) > IntKind.i64.max := by
        rw [size_mk, size_mk]; have : IntKind.i64.max = 9223372036854775807 := rfl; rw [this]; omega
      simp only [binOp, Op.stringOp, if_neg this, append_mk]; rfl
    · cases h
  · cases h

theorem run_eqGuard {op : BinOp} {t : TypeId} {x y : Operand} {vx vy : Value} (h1 : ∀ cs, vx ≠ .agg cs) (h2 : vx ≠ .nilIface) : (eqGuard op t x y vx vy).run P w = .ok () w := by
  unfold eqGuard
  cases vx <;> first | exact absurd rfl h2 | exact absurd rfl (h1 _) | (cases op <;> rfl)

variable (hc : Core B w0 I0 w I ι σ D) (hev : ∀ o r, chkA o r = true → RepA w I ι σ D (ρ o) (ev r))
include hc hev

theorem snd_bin {op : BinOp} {t : TypeId} {x y : Operand} {x' y' : RA} (h1 : chkA x x' = true) (h2 : chkA y y' = true) (h : step σ nm ev (.bin op x' y') = some e) :
    Good P B w0 I0 w I ι σ D nm e (do pure (.value (← (do eqGuard op t x y (ρ x) (ρ y); binOp op t (ρ x) (ρ y))))) := by
  simp only [step] at h
  split at h
  · rename_i v hv
    simp only [Eff.of] at h; cases h
    obtain ⟨r, hr, hrep, n1, n2⟩ := run_binop (P := P) (t := t) (w := w) hv (hev _ _ h1) (hev _ _ h2)
    exact good_same (v := r) hc (by simp [run_eqGuard n1 n2, hr]) rfl hrep
  · cases h

theorem snd_eqb {neq : Bool} {t : TypeId} {x y : Operand} {x' y' : RA} (ht : P.underlying t = some .bool) (h1 : chkA x x' = true) (h2 : chkA y y' = true) (h : step σ nm ev (.eqb neq x' y') = some e) :
    Good P B w0 I0 w I ι σ D nm e (do pure (.value (← (do eqGuard (if neq then .neq else .eql) t x y (ρ x) (ρ y); binOp (if neq then .neq else .eql) t (ρ x) (ρ y))))) := by
  simp only [step] at h
  split at h
  · rename_i a b ha hb
    simp only [Eff.of] at h; cases h
    have hE : (Op.equal t (.bool a) (.bool b)).run P w = .ok (a == b) w := by
      unfold Op.equal Op.maxDepth
      rw [show (10000 : Nat) = 9999 + 1 from rfl]
      unfold Op.equalIn
      simp [run_under ht]
    refine good_same (v := .bool (match neq with | true => !(a == b) | false => a == b)) hc ?_ rfl (.pv (.bool _))
    rw [rep_bool hev h1 ha, rep_bool hev h2 hb]
    cases neq
    · simp [run_eqGuard, binOp, hE]
    · simp [run_eqGuard, binOp, hE]
  · cases h

theorem snd_extract {x : Operand} {y : RA} {i : Nat} (h1 : chkA x y = true) (h : step σ nm ev (.extract y i) = some e) :
    Good P B w0 I0 w I ι σ D nm e (do pure (.value (← Instr.extract (ρ x) i))) := by
  simp only [step] at h
  have hx := hev _ _ h1
  split at h
  · rename_i vs hv
    split at h
    · rename_i v hvi
      simp only [Eff.of] at h; cases h
      rw [hv] at hx
      generalize ρ x = X at hx
      cases hx with
      | tup hl hh =>
        rename_i cs
        have hlt : i < cs.size := by rw [hl]; exact (List.getElem?_eq_some_iff.1 hvi).1
        have hci : cs[i]? = some cs[i] := Array.getElem?_eq_getElem hlt
        exact good_same (v := cs[i]) hc (by simp [Instr.extract, hci]) rfl (hh i _ _ hci hvi)
    · cases h
  · rename_i ps hv
    split at h
    · rename_i p hpi
      simp only [Eff.of] at h; cases h
      rw [hv] at hx
      generalize ρ x = X at hx
      cases hx with
      | pv hx =>
        cases hx with
        | tup hl hh =>
          rename_i cs
          have hlt : i < cs.size := by rw [hl]; exact (List.getElem?_eq_some_iff.1 hpi).1
          have hci : cs[i]? = some cs[i] := Array.getElem?_eq_getElem hlt
          exact good_same (v := cs[i]) hc (by simp [Instr.extract, hci]) rfl (.pv (hh i _ _ hci hpi))
    · cases h
  · cases h

end
end Go.Ab
