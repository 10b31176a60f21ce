/- One step, in small pieces. Under: nothing. -/
import Derived.Test.YthpnccneaaeomaaAb35a
namespace Go.Ab

def cellsEqE : List Nat → List AV → List AV → Option Bool
  | [], [], [] => some true
  | k :: ks, a :: l, b :: m => match scalarE k a b with
    | some x => match cellsEqE ks l m with | some y => some (x && y) | none => none
    | none => none
  | _, _, _ => none

theorem cellsEqE_eq : ∀ (ks : List Nat) (l m : List AV), cellsEqE ks l m = cellsEq ks l m
  | [], [], [] => rfl
  | k :: ks, a :: l, b :: m => by simp only [cellsEqE, cellsEq, scalarE_eq, cellsEqE_eq ks l m]; rfl
  | [], [], _ :: _ => rfl
  | [], _ :: _, _ => rfl
  | _ :: _, [], _ => rfl
  | _ :: _, _ :: _, [] => rfl

def st_mv (_σ : Store) (_nm : Nat) (ev : RA → AV) (x : RA) : Option Eff :=
  Eff.of (ev x)

def st_pick (_σ : Store) (_nm : Nat) (ev : RA → AV) (c : RA) (a : RA) (b : RA) : Option Eff :=
  match ev c with
    | .pv (.bool x) => Eff.of (match x with | true => ev a | false => ev b)
    | _ => none

def st_alloc (_σ : Store) (nm : Nat) (_ev : RA → AV) (zero : List AV) : Option Eff :=
  some { v := .ptr nm 0 0, up := [(nm, some (.box zero.length [zero] false))] }

def st_box (_σ : Store) (nm : Nat) (ev : RA → AV) (n : Nat) (x : RA) : Option Eff :=
  if (ev x).cells.length = n ∧ allCells (ev x).cells = true then some { v := .ptr nm 0 0, up := [(nm, some (.box n [(ev x).cells] false))] } else none

def st_load (σ : Store) (_nm : Nat) (ev : RA → AV) (agg : Bool) (n : Nat) (x : RA) : Option Eff :=
  match ev x with
    | .ptr b i j => match find σ b with
      | some o => match o.row? i with
        | some row => if j + n ≤ row.length then (match mkAgg agg ((row.drop j).take n) with | some v => some { v := v, rd := [b] } | none => none) else none
        | none => none
      | none => none
    | .pv (.ref cs) => if n ≤ cs.length then (match mkAgg agg ((cs.take n).map .pv) with | some v => some { v := v } | none => none) else none
    | _ => none

def st_store (σ : Store) (_nm : Nat) (ev : RA → AV) (n : Nat) (a : RA) (v : RA) : Option Eff :=
  match ev a with
    | .ptr b i j => match find σ b with
      | some (.box es rows false) => match rows[i]? with
        | some row => if (ev v).cells.length = n ∧ j + n ≤ row.length ∧ allCells (ev v).cells = true then
            some { v := .undef, rd := [b], up := [(b, some (.box es (rows.set i (setRange row j (ev v).cells)) false))] } else none
        | none => none
      | some (.arr es rows false) => match rows[i]? with
        | some row => match pures? (ev v).cells with
          | some ps => if (ev v).cells.length = n ∧ j + n ≤ row.length ∧ allCells (ev v).cells = true then
              some { v := .undef, rd := [b], up := [(b, some (.arr es (rows.set i (row.take j ++ ps ++ row.drop (j + ps.length))) false))] } else none
          | none => if (ev v).cells.length = n ∧ j + n ≤ row.length ∧ allCells (ev v).cells = true then
              some { v := .undef, rd := [b], up := [(b, some (.box es ((rows.map (·.map AV.pv)).set i (setRange (row.map .pv) j (ev v).cells)) false))] } else none
        | none => none
      | _ => none
    | _ => none

def st_bin (_σ : Store) (_nm : Nat) (ev : RA → AV) (op : BinOp) (x : RA) (y : RA) : Option Eff :=
  match binopE op (ev x) (ev y) with | some v => Eff.of v | none => none

def st_eqs (_σ : Store) (_nm : Nat) (ev : RA → AV) (neq : Bool) (kinds : List Nat) (x : RA) (y : RA) : Option Eff :=
  match cellsEqE kinds (ev x).cells (ev y).cells with
    | some b => if (ev x).isAggV = true ∧ (ev y).isAggV = true then Eff.of (.pv (.bool (match neq with | true => !b | false => b))) else none
    | none => none

def st_eqb (_σ : Store) (_nm : Nat) (ev : RA → AV) (neq : Bool) (x : RA) (y : RA) : Option Eff :=
  match ev x, ev y with
    | .pv (.bool a), .pv (.bool b) => Eff.of (.pv (.bool (match neq with | true => !(a == b) | false => a == b)))
    | _, _ => none

def st_isnil (σ : Store) (_nm : Nat) (ev : RA → AV) (neq : Bool) (x : RA) : Option Eff :=
  match (ev x).e with
    | .emp _ => Eff.of (.pv (.bool (!neq)))
    | .fsl _ rows => (match rows with | [] => Eff.of .anyB | _ :: _ => Eff.of (.pv (.bool neq)))
    | .pv (.sl _ rows) => (match rows with | [] => Eff.of .anyB | _ :: _ => Eff.of (.pv (.bool neq)))
    | .own b _ n => match find σ b with
      | some _ => (match n with | 0 => some { v := .anyB, rd := [b] } | _ + 1 => some { v := .pv (.bool neq), rd := [b] })
      | none => none
    | _ => none

def st_not (_σ : Store) (_nm : Nat) (ev : RA → AV) (x : RA) : Option Eff :=
  match ev x with | .pv (.bool b) => Eff.of (.pv (.bool (!b))) | _ => none

def st_neg (_σ : Store) (_nm : Nat) (ev : RA → AV) (x : RA) : Option Eff :=
  match ev x with | .pv (.int k n) => Eff.of (.pv (.int k (k.wrap (0 - n)))) | _ => none

def st_conv (_σ : Store) (_nm : Nat) (ev : RA → AV) (k : IntKind) (x : RA) : Option Eff :=
  match ev x with | .pv (.int _ n) => Eff.of (.pv (.int k (k.wrap n))) | _ => none

def st_same (_σ : Store) (_nm : Nat) (ev : RA → AV) (x : RA) : Option Eff :=
  match ev x with | .pv (.str s) => Eff.of (.pv (.str s)) | _ => none

def st_s2b (_σ : Store) (nm : Nat) (ev : RA → AV) (x : RA) : Option Eff :=
  match ev x with
    | .pv (.str s) => some { v := .own nm 0 s.length, up := [(nm, some (.arr 1 (s.map fun b => [PV.int .u8 b.toNat]) false))] }
    | _ => none

def st_b2s (σ : Store) (_nm : Nat) (ev : RA → AV) (x : RA) : Option Eff :=
  match prowsOf σ 1 (ev x) with
    | some (rows, rd) => match bytesOfRows rows with | some s => some { v := .pv (.str s), rd := rd } | none => none
    | none => none

def st_mkf (_σ : Store) (_nm : Nat) (ev : RA → AV) (fn : Fn) (first : List RA) (caps : List RA) : Option Eff :=
  Eff.of (.func fn (first.map ev) (caps.map ev))

def st_mkmap (_σ : Store) (nm : Nat) (_ev : RA → AV)  : Option Eff :=
  some { v := .mref nm, up := [(nm, some (.map []))] }

def st_insert (σ : Store) (_nm : Nat) (ev : RA → AV) (m : RA) (k : RA) (v : RA) : Option Eff :=
  match ev m, ev k with
    | .mref b, .pv (.str s) => match find σ b with
      | some (.map ents) => match lookupE s ents with
        | none => some { v := .undef, rd := [b], up := [(b, some (.map (insK s (ev v) ents)))] }
        | some _ => none
      | _ => none
    | _, _ => none

def st_lookup (σ : Store) (_nm : Nat) (ev : RA → AV) (m : RA) (k : RA) (zero : AV) : Option Eff :=
  match ev m, ev k with
    | .mref b, .pv (.str s) => match find σ b with
      | some (.map ents) => some { v := match lookupE s ents with | some v => .tup [v, .pv (.bool true)] | none => .tup [zero, .pv (.bool false)], rd := [b] }
      | _ => none
    | _, _ => none

def st_clear (σ : Store) (_nm : Nat) (ev : RA → AV) (es : Nat) (zero : List PV) (x : RA) : Option Eff :=
  match ev x with
    | .own b i n => match find σ b with
      | some (.arr es' rows false) => if es' = es ∧ i + n ≤ rows.length ∧ 0 < n ∧ zero.length = es then some { v := .tup [], rd := [b], up := [(b, some (.arr es (rows.take i ++ List.replicate n zero ++ rows.drop (i + n)) false))] } else none
      | _ => none
    | _ => none

def st_mksl (_σ : Store) (nm : Nat) (ev : RA → AV) (es : Nat) (bytes : Nat) (zero : List PV) (n : RA) : Option Eff :=
  match idxOf (ev n) with
    | some k => if 0 ≤ k ∧ k * bytes ≤ 2 ^ 40 ∧ zero.length = es ∧ 0 < bytes then some { v := .own nm 0 k.toNat, up := [(nm, some (.arr es (List.replicate k.toNat zero) false))] } else none
    | none => none

def st_slice (σ : Store) (_nm : Nat) (ev : RA → AV) (es : Nat) (x : RA) (lo : Option RA) (hi : Option RA) (mx : Option RA) : Option Eff :=
  match (ev x).e with
    | .own b i n => match find σ b with
      | some o => match optIdx ev 0 lo, optIdx ev n hi, optIdx ev ((o.len : Int) - i) mx with
        | some l, some h, some m => if 0 ≤ l ∧ l ≤ h ∧ h ≤ m ∧ (mx.isNone = true ∨ m ≤ n) ∧ o.es = es ∧ (mx.isNone = true ∨ (o.len : Int) ≤ i + m) then some { v := .own b (i + l.toNat) (h - l).toNat, rd := [b] } else none
        | _, _, _ => none
      | none => none
    | .pv (.sl e rows) => if e = es then step.sliceP ev es rows lo hi mx else none
    | .fsl e rows => if e = es then step.sliceP ev es rows lo hi mx else none
    | .emp e => match optIdx ev 0 lo, optIdx ev 0 hi, optIdx ev 0 mx with
      | some l, some h, some m => if l = 0 ∧ h = 0 ∧ m = 0 then Eff.of (.emp e) else none
      | _, _, _ => none
    | _ => none

def st_sslice (_σ : Store) (_nm : Nat) (ev : RA → AV) (x : RA) (lo : Option RA) (hi : Option RA) : Option Eff :=
  match ev x with
    | .pv (.str s) => match optIdx ev 0 lo, optIdx ev s.length hi with
      | some l, some h => if 0 ≤ l ∧ l ≤ h ∧ h ≤ s.length then Eff.of (.pv (.str ((s.take h.toNat).drop l.toNat))) else none
      | _, _ => none
    | _ => none

def st_faddr (σ : Store) (_nm : Nat) (ev : RA → AV) (x : RA) (off : Nat) : Option Eff :=
  match ev x with
    | .ptr b i j => match find σ b with | some _ => some { v := .ptr b i (j + off), rd := [b] } | none => none
    | .pv (.ref cs) => Eff.of (.pv (.ref (cs.drop off)))
    | _ => none

def st_field (_σ : Store) (_nm : Nat) (ev : RA → AV) (agg : Bool) (off : Nat) (n : Nat) (x : RA) : Option Eff :=
  if off + n ≤ (ev x).cells.length ∧ (ev x).isAggV = true then (match mkAgg agg (((ev x).cells.drop off).take n) with | some v => Eff.of v | none => none) else none

def st_iaddr (σ : Store) (_nm : Nat) (ev : RA → AV) (es : Nat) (x : RA) (i : RA) : Option Eff :=
  match idxOf (ev i) with
    | some k => match ev x with
      | .own b i n => match find σ b with
        | some o => if 0 ≤ k ∧ k < n ∧ o.es = es then some { v := .ptr b (i + k.toNat) 0, rd := [b] } else none
        | none => none
      | .pv (.sl e rows) => if e = es then step.iaddrP k rows else none
      | .fsl e rows => if e = es then step.iaddrP k rows else none
      | _ => none
    | none => none

def st_index (_σ : Store) (_nm : Nat) (ev : RA → AV) (agg : Bool) (len : Nat) (es : Nat) (x : RA) (i : RA) : Option Eff :=
  match idxOf (ev i) with
    | some k => if 0 ≤ k ∧ k < len ∧ (ev x).cells.length = len * es ∧ (ev x).isAggV = true then (match mkAgg agg (((ev x).cells.drop (k.toNat * es)).take es) with | some v => Eff.of v | none => none) else none
    | none => none

def st_sindex (_σ : Store) (_nm : Nat) (ev : RA → AV) (x : RA) (i : RA) : Option Eff :=
  match ev x, idxOf (ev i) with
    | .pv (.str s), some k => if 0 ≤ k then (match s[k.toNat]? with | some b => Eff.of (.pv (.int .u8 b.toNat)) | none => none) else none
    | _, _ => none

def st_extract (_σ : Store) (_nm : Nat) (ev : RA → AV) (x : RA) (i : Nat) : Option Eff :=
  match ev x with
    | .tup vs => match vs[i]? with | some v => Eff.of v | none => none
    | .pv (.tup ps) => match ps[i]? with | some p => Eff.of (.pv p) | none => none
    | _ => none

def st_call (_σ : Store) (_nm : Nat) (_ev : RA → AV) (_u0 : RA) (_u1 : List RA) : Option Eff :=
  none

def st_slen (σ : Store) (_nm : Nat) (ev : RA → AV) (x : RA) : Option Eff :=
  match (ev x).e with
    | .own b _ n => match find σ b with | some _ => some { v := .pv (.int .i64 n), rd := [b] } | none => none
    | .pv (.sl _ rows) => Eff.of (.pv (.int .i64 rows.length))
    | .fsl _ rows => Eff.of (.pv (.int .i64 rows.length))
    | .emp _ => Eff.of (.pv (.int .i64 0))
    | _ => none

def st_strlen (_σ : Store) (_nm : Nat) (ev : RA → AV) (x : RA) : Option Eff :=
  match ev x with | .pv (.str s) => Eff.of (.pv (.int .i64 s.length)) | _ => none

def st_alen (_σ : Store) (_nm : Nat) (_ev : RA → AV) (n : Nat) : Option Eff :=
  Eff.of (.pv (.int .i64 n))

def st_append (σ : Store) (nm : Nat) (ev : RA → AV) (es : Nat) (bytes : Nat) (s : RA) (x : RA) : Option Eff :=
  match (ev s).e with
    | .emp _ => match rowsOf σ es (ev x) with
      | some (xs, rd) => if xs.length * bytes ≤ 2 ^ 40 then some { v := .own nm 0 xs.length, rd := rd, up := [(nm, some (mkObj es xs))] } else none
      | none => none
    | .fsl e rows => match prowsOf σ es (ev x) with
      | some (xs, rd) => if (rows.length + xs.length) * bytes ≤ 2 ^ 40 ∧ e = es then some { v := .pv (.sl es (rows ++ xs)), rd := rd } else none
      | none => none
    | .own b 0 n => match find σ b with
      | some (.arr es' rows sl) => if rows.length = n ∧ es' = es then (match prowsOf σ es (ev x) with
        | some (xs, rd) => if (n + xs.length) * bytes ≤ 2 ^ 40 then some { v := .own nm 0 (n + xs.length), rd := b :: rd, up := [(b, none), (nm, some (.arr es (rows ++ xs) sl))] } else none
        | none => match rowsOf σ es (ev x) with
          | some (xs, rd) => if (n + xs.length) * bytes ≤ 2 ^ 40 then some { v := .own nm 0 (n + xs.length), rd := b :: rd, up := [(b, none), (nm, some (.box es (rows.map (·.map AV.pv) ++ xs) sl))] } else none
          | none => none) else (match sl with
            | true => none
            | false => match prowsOf σ es (ev x) with
              | some (xs, rd) => if n + xs.length ≤ rows.length ∧ 0 < rows.length ∧ es' = es then some { v := .own b 0 (n + xs.length), rd := b :: rd, up := [(b, some (.arr es (rows.take n ++ xs ++ rows.drop (n + xs.length)) false))] } else none
              | none => none)
      | some (.box es' rows sl) => if rows.length = n ∧ es' = es then (match rowsOf σ es (ev x) with
        | some (xs, rd) => if (n + xs.length) * bytes ≤ 2 ^ 40 then some { v := .own nm 0 (n + xs.length), rd := b :: rd, up := [(b, none), (nm, some (.box es (rows ++ xs) sl))] } else none
        | none => none) else none
      | _ => none
    | _ => none

def st_copy (σ : Store) (_nm : Nat) (ev : RA → AV) (es : Nat) (d : RA) (s : RA) : Option Eff :=
  match ev d with
    | .own b i n => match find σ b with
      | some (.arr es' rows false) => if es' = es then (match prowsOf σ es (ev s) with
        | some (xs, rd) => if i + n ≤ rows.length then
            some { v := .pv (.int .i64 (min xs.length n : Nat)), rd := b :: rd, up := [(b, some (.arr es (rows.take i ++ xs.take (min xs.length n) ++ rows.drop (i + min xs.length n)) false))] } else none
        | none => none) else none
      | _ => none
    | _ => none

def st_mm (_σ : Store) (_nm : Nat) (ev : RA → AV) (isMax : Bool) (xs : List RA) : Option Eff :=
  match xs with
    | [] => none
    | x :: l => match mmF isMax ev (ev x) l with | some v => Eff.of v | none => none

def st_build (_σ : Store) (_nm : Nat) (ev : RA → AV) (zeros : List AV) (parts : List (Nat × Nat × RA)) : Option Eff :=
  match fillA zeros (parts.map fun (o, n, x) => (o, n, ev x)) with | some cs => Eff.of (.agg cs) | none => none

def st_bsl (_σ : Store) (nm : Nat) (ev : RA → AV) (es : Nat) (n : Nat) (zeros : List AV) (parts : List (Nat × RA)) : Option Eff :=
  match fillA (List.replicate n zeros).flatten (parts.map fun (i, x) => (i * es, es, ev x)) with
    | some cs => if allCells cs = true then some { v := .own nm 0 n, up := [(nm, some (mkObj es (step.chop es n cs)))] } else none
    | none => none

def stepE (σ : Store) (nm : Nat) (ev : RA → AV) : ROp → Option Eff
  | .mv x => st_mv σ nm ev x
  | .pick c a b => st_pick σ nm ev c a b
  | .alloc zero => st_alloc σ nm ev zero
  | .box n x => st_box σ nm ev n x
  | .load agg n x => st_load σ nm ev agg n x
  | .store n a v => st_store σ nm ev n a v
  | .bin op x y => st_bin σ nm ev op x y
  | .eqs neq kinds x y => st_eqs σ nm ev neq kinds x y
  | .eqb neq x y => st_eqb σ nm ev neq x y
  | .isnil neq x => st_isnil σ nm ev neq x
  | .not x => st_not σ nm ev x
  | .neg x => st_neg σ nm ev x
  | .conv k x => st_conv σ nm ev k x
  | .same x => st_same σ nm ev x
  | .s2b x => st_s2b σ nm ev x
  | .b2s x => st_b2s σ nm ev x
  | .mkf fn first caps => st_mkf σ nm ev fn first caps
  | .mkmap  => st_mkmap σ nm ev 
  | .insert m k v => st_insert σ nm ev m k v
  | .lookup m k zero => st_lookup σ nm ev m k zero
  | .clear es zero x => st_clear σ nm ev es zero x
  | .mksl es bytes zero n => st_mksl σ nm ev es bytes zero n
  | .slice es x lo hi mx => st_slice σ nm ev es x lo hi mx
  | .sslice x lo hi => st_sslice σ nm ev x lo hi
  | .faddr x off => st_faddr σ nm ev x off
  | .field agg off n x => st_field σ nm ev agg off n x
  | .iaddr es x i => st_iaddr σ nm ev es x i
  | .index agg len es x i => st_index σ nm ev agg len es x i
  | .sindex x i => st_sindex σ nm ev x i
  | .extract x i => st_extract σ nm ev x i
  | .call _u0 _u1 => st_call σ nm ev _u0 _u1
  | .slen x => st_slen σ nm ev x
  | .strlen x => st_strlen σ nm ev x
  | .alen n => st_alen σ nm ev n
  | .append es bytes s x => st_append σ nm ev es bytes s x
  | .copy es d s => st_copy σ nm ev es d s
  | .mm isMax xs => st_mm σ nm ev isMax xs
  | .build zeros parts => st_build σ nm ev zeros parts
  | .bsl es n zeros parts => st_bsl σ nm ev es n zeros parts

def ROp.isCall : ROp → Bool
  | .call _ _ => true
  | _ => false

theorem stepE_eq (σ : Store) (nm : Nat) (ev : RA → AV) (op : ROp) : stepE σ nm ev op = step σ nm ev op := by
  cases op <;> first | rfl | (simp only [stepE, st_bin, binopE_eq]; rfl) | (simp only [stepE, st_eqs, cellsEqE_eq]; rfl)

end Go.Ab
