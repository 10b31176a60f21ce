/- State: the state of a draft. Under: nothing. -/
import Derived.Test.YtngmifmcohmfmaaDoorTdHeap
namespace Go.Ab.Td
open Go Go.Ab

/-- A state's cells: its operands, dictionaries, heap, and last of all its seed. -/
def st67 (a b c z : AV) : List AV := [a, b, c, .emp 3, .pv (.int .i64 (0)), .pv (.int .i64 (0)), .pv (.int .i64 (0)), .pv (.int .i64 (0)), .pv (.int .i64 (0)), .pv (.int .i64 (0)), .pv (.int .i64 (0)), .emp 7, .pv (.int .i64 (0)), .pv (.int .i64 (0)), .pv (.int .i64 (0)), .pv (.int .i64 (0)), .pv (.int .i64 (0)), .pv (.int .i64 (0)), .pv (.int .i64 (0)), .pv (.int .i64 (0)), .pv (.int .i64 (0)), .pv (.int .i64 (0)), .pv (.int .i64 (0)), .pv (.int .i64 (0)), .pv (.int .i64 (0)), .pv (.int .i64 (0)), .pv (.int .i64 (0)), .pv (.int .i64 (0)), .pv (.int .i64 (0)), .pv (.int .i64 (0)), .pv (.int .i64 (0)), .pv (.int .i64 (0)), .pv (.bool false), .pv (.bool false), .emp 47, .pv (.int .i64 (0)), .pv (.int .i64 (0)), .pv (.int .i64 (0)), .pv (.int .i64 (0)), .pv (.int .i64 (0)), .pv (.int .i64 (0)), .pv (.int .i64 (0)), .pv (.int .i64 (0)), .emp 1, .pv (.int .i64 (0)), .pv (.int .i64 (0)), .emp 2, .pv (.int .i64 (0)), .pv (.bool false), .pv (.int .i64 (0)), .pv (.str []), .pv (.int .i64 (0)), .pv (.int .i64 (0)), .pv (.int .i64 (0)), .pv (.int .i64 (0)), .pv (.int .i64 (0)), .pv (.int .i64 (0)), .pv (.int .i64 (0)), .pv (.int .i64 (0)), .pv (.int .i64 (0)), .pv (.int .i64 (0)), .pv (.int .i64 (0)), .emp 57, .emp 47, .emp 3, .pv (.str []), z]
def stV (o d h z : PV) : PV := .agg [o, d, h, .emp 3, .int .i64 (0), .int .i64 (0), .int .i64 (0), .int .i64 (0), .int .i64 (0), .int .i64 (0), .int .i64 (0), .emp 7, .int .i64 (0), .int .i64 (0), .int .i64 (0), .int .i64 (0), .int .i64 (0), .int .i64 (0), .int .i64 (0), .int .i64 (0), .int .i64 (0), .int .i64 (0), .int .i64 (0), .int .i64 (0), .int .i64 (0), .int .i64 (0), .int .i64 (0), .int .i64 (0), .int .i64 (0), .int .i64 (0), .int .i64 (0), .int .i64 (0), .bool false, .bool false, .emp 47, .int .i64 (0), .int .i64 (0), .int .i64 (0), .int .i64 (0), .int .i64 (0), .int .i64 (0), .int .i64 (0), .int .i64 (0), .emp 1, .int .i64 (0), .int .i64 (0), .emp 2, .int .i64 (0), .bool false, .int .i64 (0), .str [], .int .i64 (0), .int .i64 (0), .int .i64 (0), .int .i64 (0), .int .i64 (0), .int .i64 (0), .int .i64 (0), .int .i64 (0), .int .i64 (0), .int .i64 (0), .int .i64 (0), .emp 57, .emp 47, .emp 3, .str [], z]

theorem pick_dict {H : List (List PV)} (hH : HeapR H) {n : Int} (hn : 0 ≤ n) : 0 ≤ pickSpec H 3 n ∧ pickSpec H 3 n < H.length := by
  obtain ⟨more, rfl, hm, hall⟩ := hH
  have hpos : ∃ c : Nat, (idxs 3 0 (first10 ++ more)).length = c + 1 := by
    rw [idxs_append]
    exact ⟨_, rfl⟩
  obtain ⟨c, hc⟩ := hpos
  have hj : 0 ≤ n.tmod ((c + 1 : Nat) : Int) ∧ n.tmod ((c + 1 : Nat) : Int) < ((c + 1 : Nat) : Int) := ⟨Int.tmod_nonneg _ hn, Int.tmod_lt_of_pos _ (by omega)⟩
  unfold pickSpec
  rw [hc]
  obtain ⟨r, hr⟩ : ∃ r, (idxs 3 0 (first10 ++ more))[(n.tmod ((c + 1 : Nat) : Int)).toNat]? = some r := ⟨_, List.getElem?_eq_getElem (by omega)⟩
  rw [hr]
  obtain ⟨j, rfl, _, h3, _⟩ := idxs_mem 3 _ 0 r (List.mem_of_getElem? hr)
  simp only []
  omega

def DictsR (D H : List (List PV)) : Prop := 2 ≤ D.length ∧ D.length ≤ 6 ∧ ∀ r ∈ D, ∃ j : Int, r = dRow j ∧ 0 ≤ j ∧ j < H.length

section
variable (cells ops dicts H : List (List PV))
def drB : Nat × Option SObj := (0, some (.box 3 [[.pv (.sl 5 cells), .pv (.sl 5 ops), .pv (.sl 1 dicts)]] false))
def zB : Nat × Option SObj := (1, some (.box 67 [st67 (.emp 7) (.emp 7) (.emp 7) (.pv (.int .i64 0))] false))
def sTm (k v : Nat) (w : Int) : T := (((T.nil.set tdepth 1 (.ptr 0 0 0)).set tdepth 2 (.ptr 1 0 0)).set tdepth 3 (.ptr k 0 0)).set tdepth v (.pv (.int .i64 w))
def sSt (k : Nat) (v : Int) (c d : Nat) (D : List (List PV)) : List (List PV) → St
  | [] => ⟨sTm 2 k v, [drB cells ops dicts, zB, (2, some (.box 67 [st67 (.emp 7) (.own 3 0 d) (.pv (.sl 7 H)) (.pv (.int .i64 1))] false)), (3, some (.arr 7 D false))], 4, 63⟩
  | x :: L => ⟨sTm 2 k v, [drB cells ops dicts, zB, (2, some (.box 67 [st67 (.own 3 0 c) (.own 4 0 d) (.pv (.sl 7 H)) (.pv (.int .i64 1))] false)), (3, some (.arr 7 (x :: L) false)), (4, some (.arr 7 D false))], 5, 63⟩
end

attribute [local irreducible] compat

set_option maxHeartbeats 4000000 in
set_option maxRecDepth 100000 in
theorem state_run (Ok : Nat → List PV → Own → PV → Prop) (cells ops dicts : List (List PV)) (ho : ∀ r ∈ ops, WordR r) (hd : ∀ r ∈ dicts, ∃ D, r = [.int .u8 D] ∧ 0 ≤ D ∧ D < 256)
    (h27 : ∃ H, HeapR H ∧ Ok n_ref11_Draft_Heap [.agg [.sl 5 cells, .sl 5 ops, .sl 1 dicts]] [] (.sl 7 H))
    (h8 : ∀ K A B N S H, 0 ≤ A ∧ A < 256 → 0 ≤ B ∧ B < 256 → HeapR H → ∃ r, ObjR r ∧ Ok n_ref11_Word_Obj [wordV K A B N S, .sl 7 H] [] (.agg r))
    (h28 : ∀ H n, HeapR H → 0 ≤ n → Ok n_ref11_pick [.sl 7 H, .int .i64 3, .int .i64 n] [] (.int .i64 (pickSpec H 3 n))) :
    ∃ H O D, HeapR H ∧ (∃ m, m ≤ 20 ∧ SlR O m) ∧ DictsR D H ∧ fnW wG Ok noX noT noT 0 c_ref11_Draft_State [.agg [.sl 5 cells, .sl 5 ops, .sl 1 dicts]] (stV O (.sl 7 D) (.sl 7 H) (.int .i64 1)) := by
  obtain ⟨H, hH, h27⟩ := h27
  let n := min ops.length 20
  let n2 := min dicts.length 4
  obtain ⟨f, hf⟩ : ∃ f : Nat → List PV, ∀ i row, ops[i]? = some row → ObjR (f i) ∧ Ok n_ref11_Word_Obj [.agg row, .sl 7 H] [] (.agg (f i)) := by
    have hnx : ∀ i : Nat, ∃ r : List PV, ∀ row, ops[i]? = some row → ObjR r ∧ Ok n_ref11_Word_Obj [.agg row, .sl 7 H] [] (.agg r) := by
      intro i
      cases hr : ops[i]? with
      | none => exact ⟨[], fun _ h => by cases h⟩
      | some row =>
        obtain ⟨K, A, B, N, S, rfl, hA, hB⟩ := ho row (List.mem_of_getElem? hr)
        obtain ⟨r, h1, h2⟩ := h8 K A B N S H hA hB hH
        exact ⟨r, fun _ e => by cases e; exact ⟨h1, h2⟩⟩
    exact Classical.axiomOfChoice hnx
  let g : Nat → List PV := fun j => match dicts[j]? with
    | some [.int _ D] => dRow (pickSpec H 3 (IntKind.i64.wrap D))
    | _ => dRow 0
  let vs : List (List PV) := (List.range n).map f
  let ds : Nat → List (List PV) := fun j => [dRow 0, dRow 1] ++ (List.range j).map g
  have hds : ∀ j, (ds j).length = j + 2 := fun j => by simp [ds]
  refine ⟨H, match vs with | [] => .emp 7 | x :: L => .sl 7 (((x :: L).drop 0).take n), ((ds n2).drop 0).take (n2 + 2), hH, ?_, ?_, ?_⟩
  · have hit : ∀ x ∈ vs, ObjR x := by
      intro x hx
      obtain ⟨i, hi, rfl⟩ := List.mem_map.1 hx
      have hi' : i < n := List.mem_range.1 hi
      exact (hf i _ (List.getElem?_eq_getElem (by simp only [n] at hi'; omega))).1
    have hil : vs.length = n := by simp [vs]
    have hn : n ≤ 20 := by simp only [n]; omega
    refine ⟨n, hn, ?_⟩
    revert hit hil
    generalize vs = L
    intro hit hil
    cases L with
    | nil => exact .inl ⟨rfl, by simpa using hil.symm⟩
    | cons x L =>
      refine .inr ⟨_, rfl, ?_, by omega, ?_⟩
      · simp only [List.drop_zero, List.length_take]; omega
      · intro y hy
        exact hit y (List.mem_of_mem_take (by simpa using hy))
  · have hn : n2 ≤ 4 := by simp only [n2]; omega
    have hlen : 10 ≤ H.length := by
      obtain ⟨more, rfl, _⟩ := hH
      rw [List.length_append]
      exact Nat.le_add_right _ _
    refine ⟨by rw [List.drop_zero, List.length_take, hds]; omega, by rw [List.length_take]; omega, ?_⟩
    intro r hr
    have hr := List.mem_of_mem_take hr
    rw [List.drop_zero] at hr
    rcases List.mem_append.1 hr with h | h
    · simp only [List.mem_cons, List.not_mem_nil, or_false] at h
      rcases h with rfl | rfl
      · exact ⟨0, rfl, by omega, by omega⟩
      · exact ⟨1, rfl, by omega, by omega⟩
    · obtain ⟨j, hj, rfl⟩ := List.mem_map.1 h
      have hj' : j < n2 := List.mem_range.1 hj
      have hjd : dicts[j]? = some (dicts[j]'(by simp only [n2] at hj'; omega)) := List.getElem?_eq_getElem _
      obtain ⟨D, e, h0, h1⟩ := hd _ (List.mem_of_getElem? hjd)
      have hg : g j = dRow (pickSpec H 3 (IntKind.i64.wrap D)) := by simp only [g, hjd, e]
      have hw : IntKind.i64.wrap D = D := wrap_small (by omega) (by omega)
      have := pick_dict hH (n := IntKind.i64.wrap D) (by omega)
      exact ⟨_, hg, this.1, this.2⟩
  · conv => whnf
    refine ⟨_, _, h27, ?_⟩
    conv => whnf
    intro X hX _
    have key : ∀ (m i : Nat) (s : St), i + m = n → norm [1, 2, 3, 4] s = sSt cells ops dicts H 4 (i : Int) i 2 [dRow 0, dRow 1] ((List.range i).map f) → X s := by
      intro m
      induction m with
      | zero =>
        intro i s hi hs
        refine loop_norm hX s ?_
        rw [hs]
        obtain rfl : i = n := by omega
        show aw wG Ok _ true _ _ (sSt cells ops dicts H 4 (n : Int) n 2 [dRow 0, dRow 1] vs)
        have hvl : vs.length = n := by simp [vs]
        have hlt2 : decide ((n : Int) < (ops.length : Int)) = true → decide ((n : Int) < 20) = false := by simp only [n, decide_eq_true_eq, decide_eq_false_iff_not]; omega
        clear hX hs
        generalize vs = L at hvl ⊢
        cases L with
        | nil =>
          cases hlt : decide ((n : Int) < (ops.length : Int)) with
          | true =>
            conv => whnf
            rw [hlt]
            conv => whnf
            refine stuckF (hlt2 hlt) ?_
            conv => whnf
            intro X2 hX2 _
            have key2 : ∀ (m j : Nat) (s : St), j + m = n2 → norm [1, 2, 3, 5] s = sSt cells ops dicts H 5 (j : Int) n (j + 2) (ds j) [] → X2 s := by
              intro m
              induction m with
              | zero =>
                intro j s hj hs
                refine loop_norm hX2 s ?_
                obtain rfl : j = n2 := by omega
                have hl2 : decide ((n2 : Int) < (dicts.length : Int)) = true → decide ((n2 : Int) < 4) = false := by simp only [n2, decide_eq_true_eq, decide_eq_false_iff_not]; omega
                rw [hs]
                have hdl := hds n2
                generalize ds n2 = D at hdl ⊢
                cases hd2 : decide ((n2 : Int) < (dicts.length : Int)) with
                | true =>
                  conv => whnf
                  rw [hd2]
                  conv => whnf
                  refine stuckF (hl2 hd2) ?_
                  conv => whnf
                  rfl
                | false =>
                  conv => whnf
                  rw [hd2]
                  conv => whnf
                  rfl
              | succ m ih =>
                intro j s hj hs
                refine loop_norm hX2 s ?_
                rw [hs]
                have hjn : j < dicts.length ∧ j < 4 := by simp only [n2] at hj; omega
                have hd2 : decide ((j : Int) < (dicts.length : Int)) = true := by simp; omega
                have h4 : decide ((j : Int) < 4) = true := by simp; omega
                have hw : IntKind.i64.wrap ((j : Int) + 1) = ((j + 1 : Nat) : Int) := by rw [wrap_small (by omega) (by omega)]; omega
                obtain ⟨row, hrow⟩ : ∃ row, dicts[j]? = some row := ⟨_, List.getElem?_eq_getElem (by omega)⟩
                obtain ⟨Dn, rfl, hD0, hD1⟩ := hd row (List.mem_of_getElem? hrow)
                have hrow' : dicts[(j : Int).toNat]? = some [.int .u8 Dn] := by simpa using hrow
                have hwD : IntKind.i64.wrap Dn = Dn := wrap_small (by omega) (by omega)
                have hcall := h28 H (IntKind.i64.wrap Dn) hH (by omega)
                have hg : ds (j + 1) = ds j ++ [dRow (pickSpec H 3 (IntKind.i64.wrap Dn))] := by simp [ds, List.range_succ, g, hrow]
                have hgo : ∀ s', norm [1, 2, 3, 5] s' = sSt cells ops dicts H 5 (IntKind.i64.wrap ((j : Int) + 1)) n (j + 2 + 1) (ds j ++ [dRow (pickSpec H 3 (IntKind.i64.wrap Dn))]) [] → X2 s' := fun s' h => ih (j + 1) s' (by omega) (by rw [h, hw, hg])
                have hdl := hds j
                clear hs ih hg
                generalize ds j = D at hdl hgo ⊢
                generalize pickSpec H 3 (IntKind.i64.wrap Dn) = pk at hcall hgo
                conv => whnf
                rw [hd2]
                conv => whnf
                refine stuckT h4 ?_
                conv => whnf
                refine stuckStep (iaddr_at (rows := dicts) (j := (j : Int)) (by rfl) (by rfl) (by omega) hrow') ?_
                conv => whnf
                refine ⟨_, _, hcall, ?_⟩
                conv => whnf
                refine stuckStep (append_ownS (L := D) (c := j + 2) (xs := [dRow pk]) (by rfl) hdl (by rfl) (by rfl) (by simp; omega)) ?_
                conv => whnf
                refine stuckT (by kernel_rfl) ?_
                conv => whnf
                exact hgo _ rfl
            exact key2 n2 0 _ (by omega) rfl
          | false =>
            conv => whnf
            rw [hlt]
            conv => whnf
            intro X2 hX2 _
            have key2 : ∀ (m j : Nat) (s : St), j + m = n2 → norm [1, 2, 3, 5] s = sSt cells ops dicts H 5 (j : Int) n (j + 2) (ds j) [] → X2 s := by
              intro m
              induction m with
              | zero =>
                intro j s hj hs
                refine loop_norm hX2 s ?_
                obtain rfl : j = n2 := by omega
                have hl2 : decide ((n2 : Int) < (dicts.length : Int)) = true → decide ((n2 : Int) < 4) = false := by simp only [n2, decide_eq_true_eq, decide_eq_false_iff_not]; omega
                rw [hs]
                have hdl := hds n2
                generalize ds n2 = D at hdl ⊢
                cases hd2 : decide ((n2 : Int) < (dicts.length : Int)) with
                | true =>
                  conv => whnf
                  rw [hd2]
                  conv => whnf
                  refine stuckF (hl2 hd2) ?_
                  conv => whnf
                  rfl
                | false =>
                  conv => whnf
                  rw [hd2]
                  conv => whnf
                  rfl
              | succ m ih =>
                intro j s hj hs
                refine loop_norm hX2 s ?_
                rw [hs]
                have hjn : j < dicts.length ∧ j < 4 := by simp only [n2] at hj; omega
                have hd2 : decide ((j : Int) < (dicts.length : Int)) = true := by simp; omega
                have h4 : decide ((j : Int) < 4) = true := by simp; omega
                have hw : IntKind.i64.wrap ((j : Int) + 1) = ((j + 1 : Nat) : Int) := by rw [wrap_small (by omega) (by omega)]; omega
                obtain ⟨row, hrow⟩ : ∃ row, dicts[j]? = some row := ⟨_, List.getElem?_eq_getElem (by omega)⟩
                obtain ⟨Dn, rfl, hD0, hD1⟩ := hd row (List.mem_of_getElem? hrow)
                have hrow' : dicts[(j : Int).toNat]? = some [.int .u8 Dn] := by simpa using hrow
                have hwD : IntKind.i64.wrap Dn = Dn := wrap_small (by omega) (by omega)
                have hcall := h28 H (IntKind.i64.wrap Dn) hH (by omega)
                have hg : ds (j + 1) = ds j ++ [dRow (pickSpec H 3 (IntKind.i64.wrap Dn))] := by simp [ds, List.range_succ, g, hrow]
                have hgo : ∀ s', norm [1, 2, 3, 5] s' = sSt cells ops dicts H 5 (IntKind.i64.wrap ((j : Int) + 1)) n (j + 2 + 1) (ds j ++ [dRow (pickSpec H 3 (IntKind.i64.wrap Dn))]) [] → X2 s' := fun s' h => ih (j + 1) s' (by omega) (by rw [h, hw, hg])
                have hdl := hds j
                clear hs ih hg
                generalize ds j = D at hdl hgo ⊢
                generalize pickSpec H 3 (IntKind.i64.wrap Dn) = pk at hcall hgo
                conv => whnf
                rw [hd2]
                conv => whnf
                refine stuckT h4 ?_
                conv => whnf
                refine stuckStep (iaddr_at (rows := dicts) (j := (j : Int)) (by rfl) (by rfl) (by omega) hrow') ?_
                conv => whnf
                refine ⟨_, _, hcall, ?_⟩
                conv => whnf
                refine stuckStep (append_ownS (L := D) (c := j + 2) (xs := [dRow pk]) (by rfl) hdl (by rfl) (by rfl) (by simp; omega)) ?_
                conv => whnf
                refine stuckT (by kernel_rfl) ?_
                conv => whnf
                exact hgo _ rfl
            exact key2 n2 0 _ (by omega) rfl
        | cons x L =>
          cases hlt : decide ((n : Int) < (ops.length : Int)) with
          | true =>
            conv => whnf
            rw [hlt]
            conv => whnf
            refine stuckF (hlt2 hlt) ?_
            conv => whnf
            intro X2 hX2 _
            have key2 : ∀ (m j : Nat) (s : St), j + m = n2 → norm [1, 2, 3, 5] s = sSt cells ops dicts H 5 (j : Int) n (j + 2) (ds j) (x :: L) → X2 s := by
              intro m
              induction m with
              | zero =>
                intro j s hj hs
                refine loop_norm hX2 s ?_
                obtain rfl : j = n2 := by omega
                have hl2 : decide ((n2 : Int) < (dicts.length : Int)) = true → decide ((n2 : Int) < 4) = false := by simp only [n2, decide_eq_true_eq, decide_eq_false_iff_not]; omega
                rw [hs]
                have hdl := hds n2
                generalize ds n2 = D at hdl ⊢
                cases hd2 : decide ((n2 : Int) < (dicts.length : Int)) with
                | true =>
                  conv => whnf
                  rw [hd2]
                  conv => whnf
                  refine stuckF (hl2 hd2) ?_
                  conv => whnf
                  rfl
                | false =>
                  conv => whnf
                  rw [hd2]
                  conv => whnf
                  rfl
              | succ m ih =>
                intro j s hj hs
                refine loop_norm hX2 s ?_
                rw [hs]
                have hjn : j < dicts.length ∧ j < 4 := by simp only [n2] at hj; omega
                have hd2 : decide ((j : Int) < (dicts.length : Int)) = true := by simp; omega
                have h4 : decide ((j : Int) < 4) = true := by simp; omega
                have hw : IntKind.i64.wrap ((j : Int) + 1) = ((j + 1 : Nat) : Int) := by rw [wrap_small (by omega) (by omega)]; omega
                obtain ⟨row, hrow⟩ : ∃ row, dicts[j]? = some row := ⟨_, List.getElem?_eq_getElem (by omega)⟩
                obtain ⟨Dn, rfl, hD0, hD1⟩ := hd row (List.mem_of_getElem? hrow)
                have hrow' : dicts[(j : Int).toNat]? = some [.int .u8 Dn] := by simpa using hrow
                have hwD : IntKind.i64.wrap Dn = Dn := wrap_small (by omega) (by omega)
                have hcall := h28 H (IntKind.i64.wrap Dn) hH (by omega)
                have hg : ds (j + 1) = ds j ++ [dRow (pickSpec H 3 (IntKind.i64.wrap Dn))] := by simp [ds, List.range_succ, g, hrow]
                have hgo : ∀ s', norm [1, 2, 3, 5] s' = sSt cells ops dicts H 5 (IntKind.i64.wrap ((j : Int) + 1)) n (j + 2 + 1) (ds j ++ [dRow (pickSpec H 3 (IntKind.i64.wrap Dn))]) (x :: L) → X2 s' := fun s' h => ih (j + 1) s' (by omega) (by rw [h, hw, hg])
                have hdl := hds j
                clear hs ih hg
                generalize ds j = D at hdl hgo ⊢
                generalize pickSpec H 3 (IntKind.i64.wrap Dn) = pk at hcall hgo
                conv => whnf
                rw [hd2]
                conv => whnf
                refine stuckT h4 ?_
                conv => whnf
                refine stuckStep (iaddr_at (rows := dicts) (j := (j : Int)) (by rfl) (by rfl) (by omega) hrow') ?_
                conv => whnf
                refine ⟨_, _, hcall, ?_⟩
                conv => whnf
                refine stuckStep (append_ownS (L := D) (c := j + 2) (xs := [dRow pk]) (by rfl) hdl (by rfl) (by rfl) (by simp; omega)) ?_
                conv => whnf
                refine stuckT (by kernel_rfl) ?_
                conv => whnf
                exact hgo _ rfl
            exact key2 n2 0 _ (by omega) rfl
          | false =>
            conv => whnf
            rw [hlt]
            conv => whnf
            intro X2 hX2 _
            have key2 : ∀ (m j : Nat) (s : St), j + m = n2 → norm [1, 2, 3, 5] s = sSt cells ops dicts H 5 (j : Int) n (j + 2) (ds j) (x :: L) → X2 s := by
              intro m
              induction m with
              | zero =>
                intro j s hj hs
                refine loop_norm hX2 s ?_
                obtain rfl : j = n2 := by omega
                have hl2 : decide ((n2 : Int) < (dicts.length : Int)) = true → decide ((n2 : Int) < 4) = false := by simp only [n2, decide_eq_true_eq, decide_eq_false_iff_not]; omega
                rw [hs]
                have hdl := hds n2
                generalize ds n2 = D at hdl ⊢
                cases hd2 : decide ((n2 : Int) < (dicts.length : Int)) with
                | true =>
                  conv => whnf
                  rw [hd2]
                  conv => whnf
                  refine stuckF (hl2 hd2) ?_
                  conv => whnf
                  rfl
                | false =>
                  conv => whnf
                  rw [hd2]
                  conv => whnf
                  rfl
              | succ m ih =>
                intro j s hj hs
                refine loop_norm hX2 s ?_
                rw [hs]
                have hjn : j < dicts.length ∧ j < 4 := by simp only [n2] at hj; omega
                have hd2 : decide ((j : Int) < (dicts.length : Int)) = true := by simp; omega
                have h4 : decide ((j : Int) < 4) = true := by simp; omega
                have hw : IntKind.i64.wrap ((j : Int) + 1) = ((j + 1 : Nat) : Int) := by rw [wrap_small (by omega) (by omega)]; omega
                obtain ⟨row, hrow⟩ : ∃ row, dicts[j]? = some row := ⟨_, List.getElem?_eq_getElem (by omega)⟩
                obtain ⟨Dn, rfl, hD0, hD1⟩ := hd row (List.mem_of_getElem? hrow)
                have hrow' : dicts[(j : Int).toNat]? = some [.int .u8 Dn] := by simpa using hrow
                have hwD : IntKind.i64.wrap Dn = Dn := wrap_small (by omega) (by omega)
                have hcall := h28 H (IntKind.i64.wrap Dn) hH (by omega)
                have hg : ds (j + 1) = ds j ++ [dRow (pickSpec H 3 (IntKind.i64.wrap Dn))] := by simp [ds, List.range_succ, g, hrow]
                have hgo : ∀ s', norm [1, 2, 3, 5] s' = sSt cells ops dicts H 5 (IntKind.i64.wrap ((j : Int) + 1)) n (j + 2 + 1) (ds j ++ [dRow (pickSpec H 3 (IntKind.i64.wrap Dn))]) (x :: L) → X2 s' := fun s' h => ih (j + 1) s' (by omega) (by rw [h, hw, hg])
                have hdl := hds j
                clear hs ih hg
                generalize ds j = D at hdl hgo ⊢
                generalize pickSpec H 3 (IntKind.i64.wrap Dn) = pk at hcall hgo
                conv => whnf
                rw [hd2]
                conv => whnf
                refine stuckT h4 ?_
                conv => whnf
                refine stuckStep (iaddr_at (rows := dicts) (j := (j : Int)) (by rfl) (by rfl) (by omega) hrow') ?_
                conv => whnf
                refine ⟨_, _, hcall, ?_⟩
                conv => whnf
                refine stuckStep (append_ownS (L := D) (c := j + 2) (xs := [dRow pk]) (by rfl) hdl (by rfl) (by rfl) (by simp; omega)) ?_
                conv => whnf
                refine stuckT (by kernel_rfl) ?_
                conv => whnf
                exact hgo _ rfl
            exact key2 n2 0 _ (by omega) rfl
      | succ m ih =>
        intro i s hi hs
        refine loop_norm hX s ?_
        rw [hs]
        have hin : i < ops.length ∧ i < 20 := by simp only [n] at hi; omega
        have hlt : decide ((i : Int) < (ops.length : Int)) = true := by simp; omega
        have h20 : decide ((i : Int) < 20) = true := by simp; omega
        have hw : IntKind.i64.wrap ((i : Int) + 1) = ((i + 1 : Nat) : Int) := by rw [wrap_small (by omega) (by omega)]; omega
        obtain ⟨row, hrow⟩ : ∃ row, ops[i]? = some row := ⟨_, List.getElem?_eq_getElem (by omega)⟩
        obtain ⟨⟨q1, q2, q3, q4, q5, q6, q7, hqn, hfi⟩, hp⟩ := hf i row hrow
        obtain ⟨K, A, B, N, S, rfl, hA, hB⟩ := ho row (List.mem_of_getElem? hrow)
        have hrow' : ops[(i : Int).toNat]? = some [.int .u8 K, .int .u8 A, .int .u8 B, .int .i32 N, .str S] := by simpa using hrow
        have hnext : (List.range (i + 1)).map f = (List.range i).map f ++ [f i] := by simp [List.range_succ]
        have hgo : ∀ s', norm [1, 2, 3, 4] s' = sSt cells ops dicts H 4 (IntKind.i64.wrap ((i : Int) + 1)) (i + 1) 2 [dRow 0, dRow 1] ((List.range i).map f ++ [f i]) → X s' := fun s' h => ih (i + 1) s' (by omega) (by rw [h, hw, hnext])
        have hlen : ((List.range i).map f).length = i := by simp
        clear hnext ih hs
        rw [hfi] at hgo hp
        generalize (List.range i).map f = L at hgo hlen ⊢
        cases L with
        | nil =>
          conv => whnf
          rw [hlt]
          conv => whnf
          refine stuckT h20 ?_
          conv => whnf
          refine stuckStep (iaddr_at (rows := ops) (j := (i : Int)) (by rfl) (by rfl) (by omega) hrow') ?_
          conv => whnf
          refine ⟨_, _, hp, ?_⟩
          conv => whnf
          refine stuckT (by kernel_rfl) ?_
          conv => whnf
          simp only [List.length_nil] at hlen
          subst hlen
          exact hgo _ rfl
        | cons x L =>
          conv => whnf
          rw [hlt]
          conv => whnf
          refine stuckT h20 ?_
          conv => whnf
          refine stuckStep (iaddr_at (rows := ops) (j := (i : Int)) (by rfl) (by rfl) (by omega) hrow') ?_
          conv => whnf
          refine ⟨_, _, hp, ?_⟩
          conv => whnf
          refine stuckStep (append_ownS (L := x :: L) (c := i) (xs := [[.int .i64 q1, .bool q2, .int .i64 q3, .str q4, .int .i64 q5, .int .i64 q6, .int .i64 q7]]) (by rfl) hlen (by rfl) (by rfl) (by simp; omega)) ?_
          conv => whnf
          refine stuckT (by kernel_rfl) ?_
          conv => whnf
          exact hgo _ rfl
    exact key n 0 _ (by omega) rfl
end Go.Ab.Td
