/- The abstract layer, part 3: values, steps, their soundness. Under: nothing. -/
import Derived.Test.YtngmifmcohmfmaaDoorAbG2
import Derived.Test.YtngmifmcohmfmaaDoorAbG1
import Derived.OrdersIn
/- One operation's check against the model's, and its soundness. Under: nothing. -/
namespace Go.Ab
open Go.RowKit

def isFuncT (P : Program) (t : Nat) : Bool := match P.underlying t with | some (.func _ _ _) => true | _ => false
def isArrOf (P : Program) (t len es : Nat) : Bool := match P.underlying t with | some (.array n el) => n == len && chkSize P el es | _ => false
def isSl (P : Program) (t : Nat) : Option Nat := match P.underlying t with | some (.slice el) => some el | _ => none
def isStr (P : Program) (t : Nat) : Bool := match P.underlying t with | some .string => true | _ => false
def isBoolT (P : Program) (t : Nat) : Bool := match P.underlying t with | some .bool => true | _ => false
def isU8 (P : Program) (t : Nat) : Bool := match P.underlying t with | some (.int .u8) => true | _ => false
def isSlOf (P : Program) (t es : Nat) : Bool := match P.underlying t with | some (.slice el) => chkSize P el es | _ => false
def isBytes (P : Program) (t : Nat) : Bool := match P.underlying t with | some (.slice el) => isU8 P el | _ => false

theorem isSlOf_spec {P : Program} {t es : Nat} (h : isSlOf P t es = true) : ∃ el, P.underlying t = some (.slice el) ∧ chkSize P el es = true := by
  unfold isSlOf at h; split at h
  · rename_i el he; exact ⟨el, he, h⟩
  · cases h
theorem isStr_spec {P : Program} {t : Nat} (h : isStr P t = true) : P.underlying t = some .string := by
  unfold isStr at h; split at h
  · assumption
  · cases h
theorem isBoolT_spec {P : Program} {t : Nat} (h : isBoolT P t = true) : P.underlying t = some .bool := by
  unfold isBoolT at h; split at h
  · assumption
  · cases h
theorem isBytes_spec {P : Program} {t : Nat} (h : isBytes P t = true) : ∃ el, P.underlying t = some (.slice el) ∧ P.underlying el = some (.int .u8) := by
  unfold isBytes at h; split at h
  · rename_i el he
    refine ⟨el, he, ?_⟩
    unfold isU8 at h; split at h
    · assumption
    · cases h
  · cases h

def chkAppT (P : Program) (sT xT es bytes : Nat) : Bool :=
  match P.underlying sT, P.underlying xT with
  | some (.slice el), some (.slice _) => (match P.info? el with
    | some i => i.size == es && i.bytes == bytes && decide (0 < bytes) && (match i.zero with | some z => z.cells.size == es | none => false)
    | none => false)
  | _, _ => false

theorem chkAppT_spec {P : Program} {sT xT es bytes : Nat} (h : chkAppT P sT xT es bytes = true) : ∃ el, AppT P sT xT el es bytes := by
  unfold chkAppT at h
  split at h
  · rename_i el el' h1 h2
    split at h
    · rename_i i hi
      simp only [Bool.and_eq_true, beq_iff_eq, decide_eq_true_eq] at h
      obtain ⟨⟨⟨h3, h4⟩, h5⟩, h6⟩ := h
      split at h6
      · rename_i z hz
        exact ⟨el, h1, ⟨el', h2⟩, ⟨i, z, hi, h3, h4, hz, by simpa using h6⟩, h5⟩
      · cases h6
    · cases h
  · cases h

def chkBuiltin (P : Program) (b : Builtin) (ts : List TypeId) (args : List Operand) (r : ROp) : Bool :=
  match b, ts, args, r with
  | .len, [t], [x], .slen y => (isSl P t).isSome && chkA x y
  | .len, [t], [x], .strlen y => isStr P t && chkA x y
  | .len, [t], [_], .alen n => (match P.underlying t with | some (.array m _) => m == n | _ => false)
  | .append, [s, t], [x, y], .append es bytes x' y' => chkAppT P s t es bytes && chkA x x' && chkA y y'
  | .copy, [d, _], [x, y], .copy es x' y' => isSlOf P d es && chkA x x' && chkA y y'
  | .clear, [t], [x], .clear es z x' => (match P.underlying t with | some (.slice el) => chkSize P el es && chkZero P el (z.map .pv) | _ => false) && allCells (z.map .pv) && chkA x x'
  | .min, _, xs, .mm false ys => chkAs xs ys
  | .max, _, xs, .mm true ys => chkAs xs ys
  | _, _, _, _ => false

def chkMap (P : Program) (t : Nat) : Option Nat := match P.underlying t with
  | some (.map k e) => if isStr P k then some e else none
  | _ => none

theorem chkMap_spec {P : Program} {t e : Nat} (h : chkMap P t = some e) : ∃ k, P.underlying t = some (.map k e) ∧ P.underlying k = some .string := by
  unfold chkMap at h; split at h
  · rename_i k e' he
    split at h
    · rename_i hk; cases h; exact ⟨k, he, isStr_spec hk⟩
    · cases h
  · cases h

def chkEqs (P : Program) (t : Nat) (kinds : List Nat) : Bool := match P.underlying t with
  | some (.struct fs) => !P.stoodInHeld t && !P.eqGuardType P.depth t && chkFields P fs.toList kinds 0
  | _ => false

theorem chkEqs_spec {P : Program} {t : Nat} {ks : List Nat} (h : chkEqs P t ks = true) : ∃ fs : Array Field, P.underlying t = some (.struct fs) ∧ P.stoodInHeld t = false ∧ P.eqGuardType P.depth t = false ∧ chkFields P fs.toList ks 0 = true := by
  unfold chkEqs at h; split at h
  · rename_i fs hf
    simp only [Bool.and_eq_true, Bool.not_eq_true'] at h
    exact ⟨fs, hf, h.1.1, h.1.2, h.2⟩
  · cases h

def chkEqa (P : Program) (t : Nat) (kinds : List Nat) : Bool := match P.underlying t with
  | some (.array len el) => !P.eqGuardType P.depth t && (match P.info? el with | some i => i.size == 1 | none => false) && kindOk P el (kinds.headD 0) && chkAgg P el false && kinds == List.replicate len (kinds.headD 0)
  | _ => false

theorem chkEqa_spec {P : Program} {t : Nat} {ks : List Nat} (h : chkEqa P t ks = true) : ∃ len el k ie, P.underlying t = some (.array len el) ∧ P.eqGuardType P.depth t = false ∧ P.info? el = some ie ∧ ie.size = 1 ∧ kindOk P el k = true ∧ chkAgg P el false = true ∧ ks = List.replicate len k := by
  unfold chkEqa at h; split at h
  · rename_i len el hu
    simp only [Bool.and_eq_true, Bool.not_eq_true', beq_iff_eq] at h
    obtain ⟨⟨⟨⟨h1, h2⟩, h3⟩, h4⟩, h5⟩ := h
    split at h2
    · rename_i i hi
      exact ⟨len, el, _, i, hu, h1, hi, by simpa using h2, h3, h4, h5⟩
    · cases h2
  · cases h

def chkInfo (P : Program) (t es bytes : Nat) : Bool := match P.info? t with | some i => i.size == es && i.bytes == bytes | none => false

def chkOp (P : Program) (o : Op) (r : ROp) : Bool :=
  match o, r with
  | .move x, .mv y => chkA x y
  | .assign x, .mv y => chkA x y
  | .pick c a b, .pick c' a' b' => chkA c c' && chkA a a' && chkA b b'
  | .alloc t, .alloc z => chkZero P t z
  | .box _ x, .box n y => n != 0 && chkA x y
  | .load t x, .load g n y => chkSize P t n && chkAgg P t g && chkA x y
  | .store t x y, .store n x' y' => chkSize P t n && n != 0 && chkA x x' && chkA y y'
  | .binOp op _ x y _, .bin op' x' y' => decide (op = op') && chkA x x' && chkA y y'
  | .binOp .eql t x y _, .eqb false x' y' => isBoolT P t && chkA x x' && chkA y y'
  | .binOp .neq t x y _, .eqb true x' y' => isBoolT P t && chkA x x' && chkA y y'
  | .binOp .eql t x y _, .eqs false ks x' y' => (chkEqs P t ks || chkEqa P t ks) && chkA x x' && chkA y y'
  | .binOp .neq t x y _, .eqs true ks x' y' => (chkEqs P t ks || chkEqa P t ks) && chkA x x' && chkA y y'
  | .binOp .eql t x (.const (.slice none 0 0)) _, .isnil false x' => (isSl P t).isSome && chkA x x'
  | .binOp .neq t x (.const (.slice none 0 0)) _, .isnil true x' => (isSl P t).isSome && chkA x x'
  | .binOp .eql t x (.const .nilFunc) _, .isnilf false x' => isFuncT P t && chkA x x'
  | .binOp .neq t x (.const .nilFunc) _, .isnilf true x' => isFuncT P t && chkA x x'
  | .unOp .not _ x, .not y => chkA x y
  | .unOp .neg _ x, .neg y => chkA x y
  | .convert s d x, .conv k y => (P.underlying s).isSome && (match P.underlying d with | some (.int k') => decide (k = k') | _ => false) && chkA x y
  | .convert s d x, .same y => (P.underlying s).isSome && isStr P d && chkA x y
  | .convert s d x, .s2b y => isStr P s && isBytes P d && chkA x y
  | .convert s d x, .b2s y => isBytes P s && isStr P d && chkA x y
  | .makeFunc fn a b, .mkf fn' a' b' => decide (fn = fn') && chkAs a.toList a' && chkAs b.toList b'
  | .makeMap _ none, .mkmap => true
  | .insert t m k v, .insert m' k' v' => (chkMap P t).isSome && chkA m m' && chkA k k' && chkA v v'
  | .lookup t m k true, .lookup m' k' z => (match chkMap P t with | some e => chkZero1 P e z | none => false) && chkA m m' && chkA k k'
  | .makeSlice t l c, .mksl es by' z x => (match P.underlying t with | some (.slice el) => chkInfo P el es by' && chkZero P el (z.map .pv) | _ => false) && allCells (z.map .pv) && chkA l x && chkA c x
  | .slice t x lo hi mx, .slice es y lo' hi' mx' => isSlOf P t es && chkA x y && chkO lo lo' && chkO hi hi' && chkO mx mx' && (hi.isSome || mx.isNone)
  | .slice t x lo hi none, .sslice y lo' hi' => isStr P t && chkA x y && chkO lo lo' && chkO hi hi'
  | .fieldAddr t x f, .faddr y off => (match P.underlying t with | some (.struct fs) => (match fs[f]? with | some fd => fd.offset == off && (match P.info? fd.type with | some i => i.size != 0 | none => false) | none => false) | _ => false) && chkA x y
  | .field t x f, .field g off n y => (match P.underlying t with | some (.struct fs) => (match fs[f]? with | some fd => fd.offset == off && chkSize P fd.type n && chkAgg P fd.type g | none => false) | _ => false) && chkA x y
  | .indexAddr t x i, .iaddr es y j => isSlOf P t es && chkA x y && chkA i j
  | .indexAddr t x i, .paddr len es y yi => isArrOf P t len es && chkA x y && chkA i yi
  | .index t x i, .index g len es y j => (match P.underlying t with | some (.array n el) => n == len && chkSize P el es && chkAgg P el g | _ => false) && chkA x y && chkA i j
  | .index t x i, .sindex y j => isStr P t && chkA x y && chkA i j
  | .extract x i, .extract y j => chkA x y && i == j
  | .build t ps, .build z ps' => chkZero P t z && infosOk P t && chkParts P (placesOf P t) ps.toList ps'
  | .buildSlice t n ps, .bsl es m z ps' => n == m && isSlOf P t es && (match P.underlying t with | some (.slice el) => chkZero P el z | _ => false) && z.length == es && decide (n * es ≤ 2 ^ 24) && chkParts P (fun i => some (i * es, es)) ps.toList (ps'.map fun (i, x) => (i * es, es, x))
  | .call c, r => (match c.callee with | .builtin b => chkBuiltin P b c.argTypes.toList c.args.toList r | _ => false)
  | _, _ => false

section
variable {P : Program} {B : Nat} {w0 : World} {I0 : Imm} {w : World} {I : Imm} {ι : Nat → Option Nat} {σ : Store} {D : Nat → Prop} {nm : Nat} {ρ : Operand → Value} {ev : RA → AV} {e : Eff}

theorem execOp_builtin {b : Builtin} {c : Call} {o : Oper} (ho : o.op = .call c) (hb : c.callee = .builtin b) : execOp ρ o = builtin b c.argTypes o.type (c.args.map fun | .const _ => true | _ => false) (c.args.map ρ) := by
  obtain ⟨dst, op, type, pos, after, guard⟩ := o
  simp only at ho
  subst ho
  simp only [execOp, resolve, hb]
  rfl

variable (hc : Core B w0 I0 w I ι σ D) (hn : ¬ D nm) (hev : ∀ o r, chkA o r = true → RepA w I ι σ D (ρ o) (ev r))
include hc hn hev

theorem builtin_sound {b : Builtin} {ts : Array TypeId} {xs : Array Operand} {ty : TypeId} {cs : Array Bool} {r : ROp} (hk : chkBuiltin P b ts.toList xs.toList r = true) (h : step σ nm ev r = some e) :
    Good P B w0 I0 w I ι σ D nm e (builtin b ts ty cs (xs.map ρ)) := by
  obtain ⟨tl⟩ := ts
  obtain ⟨xl⟩ := xs
  simp only at hk
  have hm : Array.map ρ ⟨xl⟩ = ⟨xl.map ρ⟩ := by simp
  rw [hm]
  unfold chkBuiltin at hk
  split at hk
  · simp only [Bool.and_eq_true] at hk
    rename_i t x y
    obtain ⟨el, hel⟩ := Option.isSome_iff_exists.1 hk.1
    unfold isSl at hel; split at hel
    · exact snd_slen hc hev (by assumption) hk.2 h
    · cases hel
  · simp only [Bool.and_eq_true] at hk
    exact snd_strlen hc hev (isStr_spec hk.1) hk.2 h
  · split at hk
    · simp at hk; subst hk
      exact snd_alen hc (by assumption) h
    · cases hk
  · simp only [Bool.and_eq_true] at hk
    obtain ⟨el, ht⟩ := chkAppT_spec hk.1.1
    exact snd_append hc hn hev ht hk.1.2 hk.2 h
  · simp only [Bool.and_eq_true] at hk
    obtain ⟨el, ht, hs⟩ := isSlOf_spec hk.1.1
    exact snd_copy hc hev ht hs hk.1.2 hk.2 h
  · rename_i es z x'
    simp only [Bool.and_eq_true] at hk
    obtain ⟨⟨h1, h2⟩, h3⟩ := hk
    split at h1
    · rename_i el ht
      simp only [Bool.and_eq_true] at h1
      exact snd_clear hc hev ht h1.1 h1.2 h2 h3 h
    · cases h1
  · rw [← hm]; exact snd_mm (isMax := false) (ts := ⟨tl⟩) (ty := ty) hc hev hk h
  · rw [← hm]; exact snd_mm (isMax := true) (ts := ⟨tl⟩) (ty := ty) hc hev hk h
  · cases hk

theorem step_sound {o : Oper} {r : ROp} (hcn : ∀ v, ρ (.const v) = v) (hk : chkOp P o.op r = true) (h : step σ nm ev r = some e) : Good P B w0 I0 w I ι σ D nm e (execOp ρ o) := by
  obtain ⟨dst, op, type, pos, after, guard⟩ := o
  simp only at hk
  unfold chkOp at hk
  split at hk
  · exact snd_mv hc hev hk h
  · exact snd_mv hc hev hk h
  · simp only [Bool.and_eq_true] at hk; exact snd_pick hc hev hk.1.1 hk.1.2 hk.2 h
  · exact snd_alloc hc hn hk h
  · simp only [Bool.and_eq_true, bne_iff_ne, ne_eq] at hk; exact snd_box hc hn hev hk.1 hk.2 h
  · simp only [Bool.and_eq_true] at hk; exact snd_load hc hev hk.1.1 hk.1.2 hk.2 h
  · simp only [Bool.and_eq_true, bne_iff_ne, ne_eq] at hk; exact snd_store hc hev hk.1.1.1 hk.1.1.2 hk.1.2 hk.2 h
  · simp only [Bool.and_eq_true, decide_eq_true_eq] at hk; obtain ⟨⟨rfl, h1⟩, h2⟩ := hk; exact snd_bin hc hev h1 h2 h
  · simp only [Bool.and_eq_true] at hk; exact snd_eqb (neq := false) hc hev (isBoolT_spec hk.1.1) hk.1.2 hk.2 h
  · simp only [Bool.and_eq_true] at hk; exact snd_eqb (neq := true) hc hev (isBoolT_spec hk.1.1) hk.1.2 hk.2 h
  · simp only [Bool.and_eq_true, Bool.or_eq_true] at hk
    rcases hk.1.1 with h0 | h0
    · obtain ⟨fs, a, b, c, d⟩ := chkEqs_spec h0; exact snd_eqs (neq := false) hc hev a b c d hk.1.2 hk.2 h
    · obtain ⟨len, el, k, ie, a, b, c, d, f, g, rfl⟩ := chkEqa_spec h0; exact snd_eqa (neq := false) hc hev a b c d f g hk.1.2 hk.2 h
  · simp only [Bool.and_eq_true, Bool.or_eq_true] at hk
    rcases hk.1.1 with h0 | h0
    · obtain ⟨fs, a, b, c, d⟩ := chkEqs_spec h0; exact snd_eqs (neq := true) hc hev a b c d hk.1.2 hk.2 h
    · obtain ⟨len, el, k, ie, a, b, c, d, f, g, rfl⟩ := chkEqa_spec h0; exact snd_eqa (neq := true) hc hev a b c d f g hk.1.2 hk.2 h
  · simp only [Bool.and_eq_true] at hk
    obtain ⟨el, hel⟩ := Option.isSome_iff_exists.1 hk.1
    unfold isSl at hel; split at hel
    · exact snd_isnil (neq := false) hc hev (by assumption) hk.2 (hcn _) h
    · cases hel
  · simp only [Bool.and_eq_true] at hk
    obtain ⟨el, hel⟩ := Option.isSome_iff_exists.1 hk.1
    unfold isSl at hel; split at hel
    · exact snd_isnil (neq := true) hc hev (by assumption) hk.2 (hcn _) h
    · cases hel
  · simp only [Bool.and_eq_true] at hk
    obtain ⟨h1, h2⟩ := hk
    unfold isFuncT at h1; split at h1
    · exact snd_isnilf (neq := false) hc hev (by assumption) h2 (hcn _) h
    · cases h1
  · simp only [Bool.and_eq_true] at hk
    obtain ⟨h1, h2⟩ := hk
    unfold isFuncT at h1; split at h1
    · exact snd_isnilf (neq := true) hc hev (by assumption) h2 (hcn _) h
    · cases h1
  · exact snd_not hc hev hk h
  · exact snd_neg hc hev hk h
  · simp only [Bool.and_eq_true] at hk
    obtain ⟨⟨h1, h2⟩, h3⟩ := hk
    obtain ⟨ds, hds⟩ := Option.isSome_iff_exists.1 h1
    split at h2
    · simp only [decide_eq_true_eq] at h2; subst h2; exact snd_conv hc hev hds (by assumption) h3 h
    · cases h2
  · simp only [Bool.and_eq_true] at hk
    obtain ⟨⟨h1, h2⟩, h3⟩ := hk
    obtain ⟨ds, hds⟩ := Option.isSome_iff_exists.1 h1
    exact snd_same hc hev hds (isStr_spec h2) h3 h
  · simp only [Bool.and_eq_true] at hk
    obtain ⟨el, h1, h2⟩ := isBytes_spec hk.1.2
    exact snd_s2b hc hn hev (isStr_spec hk.1.1) h1 h2 hk.2 h
  · simp only [Bool.and_eq_true] at hk
    obtain ⟨el, h1, h2⟩ := isBytes_spec hk.1.1
    exact snd_b2s hc hev h1 (isStr_spec hk.1.2) h2 hk.2 h
  · simp only [Bool.and_eq_true, decide_eq_true_eq] at hk; obtain ⟨⟨rfl, h1⟩, h2⟩ := hk; exact snd_mkf hc hev h1 h2 h
  · exact snd_mkmap hc hn h
  · simp only [Bool.and_eq_true] at hk
    obtain ⟨⟨⟨h1, h2⟩, h3⟩, h4⟩ := hk
    obtain ⟨et, het⟩ := Option.isSome_iff_exists.1 h1
    obtain ⟨kt, a, b⟩ := chkMap_spec het
    exact snd_insert hc hev a b h2 h3 h4 h
  · simp only [Bool.and_eq_true] at hk
    obtain ⟨⟨h1, h2⟩, h3⟩ := hk
    split at h1
    · rename_i et het
      obtain ⟨kt, a, b⟩ := chkMap_spec het
      exact snd_lookup hc hev a b h1 h2 h3 h
    · cases h1
  · simp only [Bool.and_eq_true] at hk
    obtain ⟨⟨⟨h1, h2⟩, h3⟩, h4⟩ := hk
    split at h1
    · rename_i el hel
      simp only [Bool.and_eq_true] at h1
      obtain ⟨h5, h6⟩ := h1
      unfold chkInfo at h5
      split at h5
      · rename_i i hi
        simp only [Bool.and_eq_true, beq_iff_eq] at h5
        exact snd_mksl hc hn hev hel hi h5.1 h5.2 h6 h2 h3 h4 h
      · cases h5
    · cases h1
  · simp only [Bool.and_eq_true] at hk
    obtain ⟨⟨⟨⟨⟨h1, h2⟩, h3⟩, h4⟩, h5⟩, h6⟩ := hk
    obtain ⟨el, ht, hs⟩ := isSlOf_spec h1
    refine snd_slice hc hev ht hs h2 h3 h4 h5 (fun he => ?_) h
    subst he; simpa using h6
  · simp only [Bool.and_eq_true] at hk
    exact snd_sslice hc hev (isStr_spec hk.1.1.1) hk.1.1.2 hk.1.2 hk.2 h
  · simp only [Bool.and_eq_true] at hk
    obtain ⟨h1, h2⟩ := hk
    split at h1
    · rename_i fs hfs
      split at h1
      · rename_i fd hfd
        simp only [Bool.and_eq_true, beq_iff_eq] at h1
        obtain ⟨h3, h4⟩ := h1
        split at h4
        · rename_i i hi
          exact snd_faddr (n := i.size) hc hev hfs hfd h3 (by simp [chkSize, hi]) (by simpa using h4) h2 h
        · cases h4
      · cases h1
    · cases h1
  · simp only [Bool.and_eq_true] at hk
    obtain ⟨h1, h2⟩ := hk
    split at h1
    · rename_i fs hfs
      split at h1
      · rename_i fd hfd
        simp only [Bool.and_eq_true, beq_iff_eq] at h1
        exact snd_field hc hev hfs hfd h1.1.1 h1.1.2 h1.2 h2 h
      · cases h1
    · cases h1
  · simp only [Bool.and_eq_true] at hk
    obtain ⟨el, ht, hs⟩ := isSlOf_spec hk.1.1
    exact snd_iaddr hc hev ht hs hk.1.2 hk.2 h
  · simp only [Bool.and_eq_true] at hk
    obtain ⟨⟨h1, h2⟩, h3⟩ := hk
    unfold isArrOf at h1; split at h1
    · rename_i n el ht
      simp only [Bool.and_eq_true, beq_iff_eq] at h1
      obtain ⟨rfl, hs⟩ := h1
      exact snd_paddr hc hev ht hs h2 h3 h
    · cases h1
  · simp only [Bool.and_eq_true] at hk
    obtain ⟨⟨h1, h2⟩, h3⟩ := hk
    split at h1
    · rename_i n el hel
      simp only [Bool.and_eq_true, beq_iff_eq] at h1
      obtain ⟨⟨rfl, h4⟩, h5⟩ := h1
      exact snd_index hc hev hel h4 h5 h2 h3 h
    · cases h1
  · simp only [Bool.and_eq_true] at hk
    exact snd_sindex hc hev (isStr_spec hk.1.1) hk.1.2 hk.2 h
  · simp only [Bool.and_eq_true, beq_iff_eq] at hk
    obtain ⟨h1, rfl⟩ := hk
    exact snd_extract hc hev h1 h
  · simp only [Bool.and_eq_true] at hk
    exact snd_build hc hev hk.1.1 hk.1.2 hk.2 h
  · simp only [Bool.and_eq_true, beq_iff_eq, decide_eq_true_eq] at hk
    obtain ⟨⟨⟨⟨⟨rfl, h1⟩, h2⟩, h3⟩, h4⟩, h5⟩ := hk
    obtain ⟨el, ht, hs⟩ := isSlOf_spec h1
    simp only [ht] at h2
    exact snd_bsl hc hn hev ht hs h2 h3 h4 h5 h
  · split at hk
    · rename_i c b hb
      rw [execOp_builtin rfl hb]
      exact builtin_sound hc hn hev hk h
    · cases hk
  · cases hk

end
end Go.Ab

/- A step looks at its operands and at the blocks it names as read, and at nothing else. Under: nothing. -/
namespace Go.Ab

def oList : Option RA → List RA | some x => [x] | none => []

def ROp.operands : ROp → List RA
  | .mv x | .box _ x | .load _ _ x | .isnil _ x | .isnilf _ x | .not x | .neg x | .conv _ x | .same x | .s2b x | .b2s x | .faddr x _ | .field _ _ _ x | .extract x _ | .slen x | .strlen x | .mksl _ _ _ x | .clear _ _ x => [x]
  | .pick a b c => [a, b, c]
  | .alloc _ | .mkmap | .alen _ => []
  | .store _ a b | .bin _ a b | .eqs _ _ a b | .eqb _ a b | .lookup a b _ | .iaddr _ a b | .paddr _ _ a b | .index _ _ _ a b | .sindex a b | .append _ _ a b | .copy _ a b => [a, b]
  | .mkf _ a b => a ++ b
  | .insert a b c => [a, b, c]
  | .slice _ x a b c => x :: (oList a ++ oList b ++ oList c)
  | .sslice x a b => x :: (oList a ++ oList b)
  | .call f a => f :: a
  | .mm _ xs => xs
  | .build _ ps => ps.map fun (_, _, x) => x
  | .bsl _ _ _ ps => ps.map fun (_, x) => x

/-- The same block, but for the sealO. -/
def Alike (σ σ' : Store) (b : Nat) : Prop := (find σ' b).map SObj.sealO = (find σ b).map SObj.sealO

theorem Alike.of_eq {σ σ' : Store} {b : Nat} (h : find σ' b = find σ b) : Alike σ σ' b := by unfold Alike; rw [h]

theorem seal_eq {o o' : SObj} (h : o'.sealO = o.sealO) : o'.es = o.es ∧ o'.row? = o.row? := by
  cases o <;> cases o' <;> simp only [SObj.sealO] at h <;> cases h <;> exact ⟨rfl, rfl⟩

theorem seal_eq_len {o o' : SObj} (h : o'.sealO = o.sealO) : o'.len = o.len := by
  cases o <;> cases o' <;> simp only [SObj.sealO] at h <;> cases h <;> rfl

theorem Alike.some {σ σ' : Store} {b : Nat} {o : SObj} (h : Alike σ σ' b) (hf : find σ b = some o) : ∃ o', find σ' b = some o' ∧ o'.sealO = o.sealO := by
  unfold Alike at h; rw [hf] at h
  cases hf' : find σ' b with
  | none => rw [hf'] at h; cases h
  | some o' => rw [hf'] at h; simp at h; exact ⟨o', rfl, h⟩

theorem Alike.arr {σ σ' : Store} {b e : Nat} {r : List (List PV)} {s : Bool} (h : Alike σ σ' b) (hf : find σ b = Option.some (.arr e r s)) : ∃ s', find σ' b = Option.some (.arr e r s') := by
  obtain ⟨o', h1, h2⟩ := h.some hf
  cases o' <;> simp only [SObj.sealO] at h2 <;> cases h2
  exact ⟨_, h1⟩
theorem Alike.box {σ σ' : Store} {b e : Nat} {r : List (List AV)} {s : Bool} (h : Alike σ σ' b) (hf : find σ b = Option.some (.box e r s)) : ∃ s', find σ' b = Option.some (.box e r s') := by
  obtain ⟨o', h1, h2⟩ := h.some hf
  cases o' <;> simp only [SObj.sealO] at h2 <;> cases h2
  exact ⟨_, h1⟩
theorem Alike.map {σ σ' : Store} {b : Nat} {r : List (List UInt8 × AV)} (h : Alike σ σ' b) (hf : find σ b = Option.some (.map r)) : find σ' b = Option.some (.map r) := by
  obtain ⟨o', h1, h2⟩ := h.some hf
  cases o' <;> simp only [SObj.sealO] at h2 <;> cases h2
  exact h1

theorem prowsOf_frame {σ σ' : Store} {es : Nat} {v : AV} {xs : List (List PV)} {rd : List Nat} (h : prowsOf σ es v = some (xs, rd)) (hr : ∀ b ∈ rd, Alike σ σ' b) : prowsOf σ' es v = some (xs, rd) := by
  unfold prowsOf at h ⊢
  split at h
  · exact h
  · exact h
  · exact h
  · split at h
    · rename_i hf
      split at h
      · cases h
        obtain ⟨s', hs'⟩ := (hr _ (by simp)).arr hf
        simp only [hs']; rw [if_pos (by assumption)]
      · cases h
    · cases h
  · cases h

theorem prowsOf_none {σ σ' : Store} {es : Nat} {v : AV} {xs : List (List AV)} {rd : List Nat} (h : rowsOf σ es v = some (xs, rd)) (hn : prowsOf σ es v = none) (hr : ∀ b ∈ rd, Alike σ σ' b) : prowsOf σ' es v = none := by
  unfold rowsOf at h
  unfold prowsOf at hn ⊢
  split at h
  · rename_i he; simp only [he] at hn; cases hn
  · rename_i e rows he
    split at h
    · rename_i hee; simp only [he, if_pos hee] at hn; cases hn
    · cases h
  · rename_i e rows he
    split at h
    · rename_i hee; simp only [he, if_pos hee] at hn; cases hn
    · cases h
  · rename_i b i n he
    simp only [he] at hn ⊢
    split at h
    · rename_i e rows sl hf
      split at h
      · rename_i hee; simp only [hf, if_pos hee] at hn; cases hn
      · cases h
    · rename_i e rows sl hf
      split at h
      · cases h
        obtain ⟨s', hs'⟩ := (hr _ (by simp)).box hf
        simp only [hs']
      · cases h
    · cases h
  · cases h

theorem rowsOf_frame {σ σ' : Store} {es : Nat} {v : AV} {xs : List (List AV)} {rd : List Nat} (h : rowsOf σ es v = some (xs, rd)) (hr : ∀ b ∈ rd, Alike σ σ' b) : rowsOf σ' es v = some (xs, rd) := by
  unfold rowsOf at h ⊢
  split at h
  · exact h
  · exact h
  · exact h
  · split at h
    · rename_i hf
      split at h
      · cases h
        obtain ⟨s', hs'⟩ := (hr _ (by simp)).arr hf
        simp only [hs']; rw [if_pos (by assumption)]
      · cases h
    · rename_i hf
      split at h
      · cases h
        obtain ⟨s', hs'⟩ := (hr _ (by simp)).box hf
        simp only [hs']; rw [if_pos (by assumption)]
      · cases h
    · cases h
  · cases h

theorem pubL_frame {f g : AV → Option (PV × List Nat)} {R : Nat → Prop} (hfg : ∀ a p m, f a = some (p, m) → (∀ b ∈ m, R b) → g a = some (p, m)) :
    ∀ (l : List AV) (ps : List PV) (m : List Nat), pubL f l = some (ps, m) → (∀ b ∈ m, R b) → pubL g l = some (ps, m)
  | [], ps, m, h, _ => by simp only [pubL] at h ⊢; exact h
  | a :: l, ps, m, h, hr => by
    simp only [pubL] at h ⊢
    split at h
    · rename_i p n hp
      split at h
      · rename_i ps' m' hps
        cases h
        rw [hfg a p n hp fun b hb => hr b (List.mem_append_left _ hb)]
        simp only
        rw [pubL_frame hfg l ps' m' hps fun b hb => hr b (List.mem_append_right _ hb)]
      · cases h
    · cases h

theorem pubR_frame {f g : AV → Option (PV × List Nat)} {R : Nat → Prop} (hfg : ∀ a p m, f a = some (p, m) → (∀ b ∈ m, R b) → g a = some (p, m)) :
    ∀ (l : List (List AV)) (ps : List (List PV)) (m : List Nat), pubR f l = some (ps, m) → (∀ b ∈ m, R b) → pubR g l = some (ps, m)
  | [], ps, m, h, _ => by simp only [pubR] at h ⊢; exact h
  | a :: l, ps, m, h, hr => by
    simp only [pubR] at h ⊢
    split at h
    · rename_i p n hp
      split at h
      · rename_i ps' m' hps
        cases h
        rw [pubL_frame hfg a p n hp fun b hb => hr b (List.mem_append_left _ hb)]
        simp only
        rw [pubR_frame hfg l ps' m' hps fun b hb => hr b (List.mem_append_right _ hb)]
      · cases h
    · cases h

theorem pub_frame {σ σ' : Store} : ∀ (k : Nat) (a : AV) (p : PV) (m : List Nat), pub σ k a = some (p, m) → (∀ b ∈ m, Alike σ σ' b) → pub σ' k a = some (p, m) := by
  intro k
  induction k with
  | zero =>
    intro a p m h _
    cases a <;> simp only [pub] at h ⊢ <;> first | exact h | cases h
  | succ k ih =>
    intro a p m h hr
    cases a with
    | pv p => simp only [pub] at h ⊢; exact h
    | emp es => simp only [pub] at h ⊢; exact h
    | fsl es rows => simp only [pub] at h ⊢; exact h
    | agg cs =>
      simp only [pub] at h ⊢
      split at h
      · rename_i ps n hp; cases h; rw [pubL_frame ih _ _ _ hp hr]
      · cases h
    | tup cs =>
      simp only [pub] at h ⊢
      split at h
      · rename_i ps n hp; cases h; rw [pubL_frame ih _ _ _ hp hr]
      · cases h
    | func fn a b =>
      simp only [pub] at h ⊢
      split at h
      · rename_i ps n hp
        split at h
        · rename_i qs m' hq
          cases h
          rw [pubL_frame ih _ _ _ hp fun b hb => hr b (List.mem_append_left _ hb)]
          simp only
          rw [pubL_frame ih _ _ _ hq fun b hb => hr b (List.mem_append_right _ hb)]
        · cases h
      · cases h
    | own b i n =>
      simp only [pub] at h ⊢
      split at h
      · rename_i hf; cases h
        obtain ⟨s', hs'⟩ := (hr _ (by simp)).arr hf
        simp only [hs']
      · rename_i hf
        split at h
        · rename_i ps m' hp
          cases h
          obtain ⟨s', hs'⟩ := (hr _ (by simp)).box hf
          simp only [hs']
          rw [pubR_frame ih _ _ _ hp fun b hb => hr b (List.mem_cons_of_mem _ hb)]
        · cases h
      · cases h
    | ptr b i j =>
      simp only [pub] at h ⊢
      split at h
      · rename_i o hf
        split at h
        · rename_i row hrow
          split at h
          · rename_i ps m' hp
            cases h
            obtain ⟨o', ho', hse⟩ := (hr b (by simp)).some hf
            simp only [ho', (seal_eq hse).2, hrow]
            rw [pubL_frame ih _ _ _ hp fun b hb => hr b (List.mem_cons_of_mem _ hb)]
          · cases h
        · cases h
      · cases h
    | mref b => simp only [pub] at h; cases h
    | anyB => simp only [pub] at h; cases h
    | yld b => simp only [pub] at h; cases h
    | mark k => simp only [pub] at h; cases h
    | undef => simp only [pub] at h; cases h

section
variable {σ σ' : Store} {nm : Nat} {ev ev' : RA → AV} {e : Eff}

theorem optIdx_frame {d : Int} {o : Option RA} (h : ∀ x ∈ oList o, ev' x = ev x) : optIdx ev' d o = optIdx ev d o := by
  cases o with
  | none => rfl
  | some x => simp only [optIdx]; rw [h x (by simp [oList])]

theorem mmF_frame {isMax : Bool} : ∀ (l : List RA) (a : AV), (∀ x ∈ l, ev' x = ev x) → mmF isMax ev' a l = mmF isMax ev a l
  | [], a, _ => rfl
  | x :: l, a, h => by
    simp only [mmF]
    rw [h x (by simp)]
    split
    · exact mmF_frame l _ fun y hy => h y (List.mem_cons_of_mem _ hy)
    · rfl

end
end Go.Ab

/- A step's frame. Under: nothing. -/
namespace Go.Ab
section
variable {σ σ' : Store} {nm : Nat} {ev ev' : RA → AV} {e : Eff}

theorem step_frame {op : ROp} (h : step σ nm ev op = some e) (hev : ∀ x ∈ op.operands, ev' x = ev x)
    (hrd : ∀ b ∈ e.rd, Alike σ σ' b ∧ (b ∈ e.up.map (·.1) → find σ' b = find σ b)) : step σ' nm ev' op = some e := by
  cases op <;> simp only [ROp.operands, List.mem_cons, List.mem_append, List.not_mem_nil, or_false, forall_eq_or_imp, forall_eq] at hev
  case mv x => simp only [step, hev] at h ⊢; exact h
  case pick c a b => simp only [step, hev.1, hev.2.1, hev.2.2] at h ⊢; exact h
  case alloc z => simp only [step] at h ⊢; exact h
  case box n x => simp only [step, hev] at h ⊢; exact h
  case load g n x =>
    simp only [step, hev] at h ⊢
    split at h
    · split at h
      · rename_i o hf
        split at h
        · rename_i row hrow
          split at h
          · rename_i hle
            split at h
            · rename_i v hv
              cases h
              obtain ⟨o', ho', hse⟩ := (hrd _ (by simp)).1.some hf
              simp only [ho', (seal_eq hse).2, hrow, hle, if_true, hv]
            · cases h
          · cases h
        · cases h
      · cases h
    · exact h
    · cases h
  case store n a v =>
    simp only [step, hev.1, hev.2] at h ⊢
    split at h
    · rename_i b i j hb
      have key : b ∈ e.rd ∧ b ∈ e.up.map (·.1) := by
        split at h <;> (try cases h)
        · split at h <;> (try cases h)
          split at h <;> cases h
          exact ⟨by simp, by simp⟩
        · split at h <;> (try cases h)
          split at h
          · split at h <;> cases h
            exact ⟨by simp, by simp⟩
          · split at h <;> cases h
            exact ⟨by simp, by simp⟩
      rw [(hrd b key.1).2 key.2]; exact h
    · cases h
  case bin o x y => simp only [step, hev.1, hev.2] at h ⊢; exact h
  case eqs n k x y => simp only [step, hev.1, hev.2] at h ⊢; exact h
  case eqb n x y => simp only [step, hev.1, hev.2] at h ⊢; exact h
  case isnil n x =>
    simp only [step, hev] at h ⊢
    split at h
    · exact h
    · exact h
    · exact h
    · split at h
      · rename_i o hf
        have hin : ∀ b, b ∈ e.rd → ∀ o, find σ b = some o → ∃ o', find σ' b = some o' := fun b hb o ho => let ⟨o', h1, _⟩ := (hrd b hb).1.some ho; ⟨o', h1⟩
        split at h
        · cases h
          obtain ⟨o', ho'⟩ := hin _ (by simp) _ hf
          simp only [ho']
        · cases h
          obtain ⟨o', ho'⟩ := hin _ (by simp) _ hf
          simp only [ho']
      · cases h
    · cases h
  case not x => simp only [step, hev] at h ⊢; exact h
  case neg x => simp only [step, hev] at h ⊢; exact h
  case conv k x => simp only [step, hev] at h ⊢; exact h
  case same x => simp only [step, hev] at h ⊢; exact h
  case s2b x => simp only [step, hev] at h ⊢; exact h
  case b2s x =>
    simp only [step, hev] at h ⊢
    split at h
    · rename_i rows rd hp
      split at h
      · rename_i s hs
        cases h
        rw [prowsOf_frame hp fun b hb => (hrd b hb).1]
        simp only [hs]
      · cases h
    · cases h
  case mkf fn a b =>
    simp only [step] at h ⊢
    rw [List.map_congr_left fun x hx => hev x (.inl hx), List.map_congr_left fun x hx => hev x (.inr hx)]
    exact h
  case mkmap => simp only [step] at h ⊢; exact h
  case insert m k v =>
    simp only [step, hev.1, hev.2.1, hev.2.2] at h ⊢
    split at h
    · rename_i b s hb hs
      split at h
      · rename_i ents hf
        split at h
        · cases h
          rw [(hrd b (by simp)).1.map hf]
          simp only [*]
        · cases h
      · cases h
    · cases h
  case lookup m k z =>
    simp only [step, hev.1, hev.2] at h ⊢
    split at h
    · rename_i b s hb hs
      split at h
      · rename_i ents hf
        cases h
        rw [(hrd b (by simp)).1.map hf]
      · cases h
    · cases h
  case clear es z x =>
    simp only [step, hev] at h ⊢
    split at h
    · rename_i b i n hb
      split at h
      · rename_i es' rows hf
        split at h
        · rename_i hle
          cases h
          rw [(hrd b (by simp)).2 (by simp), hf]
          simp only; rw [if_pos hle]
        · cases h
      · cases h
    · cases h
  case mksl es by' z x => simp only [step, hev] at h ⊢; exact h
  case slice es x lo hi mx =>
    have h1 : ∀ {d : Int}, optIdx ev' d lo = optIdx ev d lo := optIdx_frame fun x hx => hev.2 x (.inl (.inl hx))
    have h2 : ∀ {d : Int}, optIdx ev' d hi = optIdx ev d hi := optIdx_frame fun x hx => hev.2 x (.inl (.inr hx))
    have h3 : ∀ {d : Int}, optIdx ev' d mx = optIdx ev d mx := optIdx_frame fun x hx => hev.2 x (.inr hx)
    have h4 : ∀ es rows, step.sliceP ev' es rows lo hi mx = step.sliceP ev es rows lo hi mx := by
      intro es rows; simp only [step.sliceP, h1, h2, h3]
    simp only [step, hev.1, h1, h2, h3, h4] at h ⊢
    split at h
    · split at h
      · rename_i o hf
        split at h
        · rename_i hl1 hl2 hl3
          split at h
          · rename_i hle
            cases h
            obtain ⟨o', ho', hse⟩ := (hrd _ (by simp)).1.some hf
            have e1 := (seal_eq hse).1
            have e2 := seal_eq_len hse
            simp only [ho']
            rw [e1, e2]
            simp only [hl1, hl2, hl3]
            rw [if_pos hle]
          · cases h
        · cases h
      · cases h
    · exact h
    · exact h
    · exact h
    · cases h
  case sslice x lo hi =>
    have h1 : ∀ {d : Int}, optIdx ev' d lo = optIdx ev d lo := optIdx_frame fun x hx => hev.2 x (.inl hx)
    have h2 : ∀ {d : Int}, optIdx ev' d hi = optIdx ev d hi := optIdx_frame fun x hx => hev.2 x (.inr hx)
    simp only [step, hev.1, h1, h2] at h ⊢; exact h
  case faddr x off =>
    simp only [step, hev] at h ⊢
    split at h
    · split at h
      · rename_i o hf
        cases h
        obtain ⟨o', ho', hse⟩ := (hrd _ (by simp)).1.some hf
        simp only [ho']
      · cases h
    · exact h
    · cases h
  case field g off n x => simp only [step, hev] at h ⊢; exact h
  case isnilf n x => simp only [step, hev] at h ⊢; exact h
  case paddr len es x i =>
    simp only [step, hev.1, hev.2] at h ⊢
    split at h
    · split at h
      · rename_i hle
        rw [if_pos hle]
        split at h
        · split at h
          · rename_i o hf
            cases h
            obtain ⟨o', ho', hse⟩ := (hrd _ (by simp)).1.some hf
            simp only [ho']
          · cases h
        · exact h
        · cases h
      · cases h
    · cases h
  case iaddr es x i =>
    simp only [step, hev.1, hev.2] at h ⊢
    split at h
    · split at h
      · split at h
        · rename_i o hf
          split at h
          · rename_i hle
            cases h
            obtain ⟨o', ho', hse⟩ := (hrd _ (by simp)).1.some hf
            simp only [ho', (seal_eq hse).1]
            rw [if_pos hle]
          · cases h
        · cases h
      · exact h
      · exact h
      · cases h
    · cases h
  case index g l es x i => simp only [step, hev.1, hev.2] at h ⊢; exact h
  case sindex x i => simp only [step, hev.1, hev.2] at h ⊢; exact h
  case extract x i => simp only [step, hev] at h ⊢; exact h
  case call f a => simp only [step] at h; cases h
  case slen x =>
    simp only [step, hev] at h ⊢
    split at h
    · split at h
      · rename_i o hf
        cases h
        obtain ⟨o', ho', hse⟩ := (hrd _ (by simp)).1.some hf
        simp only [ho']
      · cases h
    · exact h
    · exact h
    · exact h
    · cases h
  case strlen x => simp only [step, hev] at h ⊢; exact h
  case alen n => simp only [step] at h ⊢; exact h
  case append es by' s x =>
    simp only [step, hev.1, hev.2] at h ⊢
    split at h
    · split at h
      · rename_i xs rd hx
        split at h
        · rename_i hle
          cases h
          rw [rowsOf_frame hx fun b hb => (hrd b hb).1]
          simp only; rw [if_pos hle]
        · cases h
      · cases h
    · split at h
      · rename_i xs rd hx
        split at h
        · rename_i hle
          cases h
          rw [prowsOf_frame hx fun b hb => (hrd b hb).1]
          simp only; rw [if_pos hle]
        · cases h
      · cases h
    · rename_i b n hb
      split at h
      · rename_i es' rows sl hf
        split at h
        · rename_i hee
          split at h
          · rename_i xs rd hx
            split at h
            · rename_i hle
              cases h
              rw [(hrd b (by simp)).2 (by simp), hf, prowsOf_frame hx fun b hb => (hrd b (by simp [hb])).1]
              simp only; rw [if_pos hee, if_pos hle]
            · cases h
          · rename_i hnone
            split at h
            · rename_i xs rd hx
              split at h
              · rename_i hle
                cases h
                rw [(hrd b (by simp)).2 (by simp), hf, prowsOf_none hx hnone fun b hb => (hrd b (by simp [hb])).1, rowsOf_frame hx fun b hb => (hrd b (by simp [hb])).1]
                simp only; rw [if_pos hee, if_pos hle]
              · cases h
            · cases h
        · rename_i hee
          split at h
          · cases h
          · split at h
            · rename_i xs rd hx
              split at h
              · rename_i hle
                cases h
                rw [(hrd b (by simp)).2 (by simp), hf, prowsOf_frame hx fun b hb => (hrd b (by simp [hb])).1]
                simp only; rw [if_neg hee, if_pos hle]
              · cases h
            · cases h
      · rename_i es' rows sl hf
        split at h
        · rename_i hee
          split at h
          · rename_i xs rd hx
            split at h
            · rename_i hle
              cases h
              rw [(hrd b (by simp)).2 (by simp), hf, rowsOf_frame hx fun b hb => (hrd b (by simp [hb])).1]
              simp only; rw [if_pos hee, if_pos hle]
            · cases h
          · cases h
        · cases h
      · cases h
    · cases h
  case copy es d s =>
    simp only [step, hev.1, hev.2] at h ⊢
    split at h
    · rename_i b i n hb
      split at h
      · rename_i es' rows hf
        split at h
        · rename_i hee
          split at h
          · rename_i xs rd hx
            split at h
            · rename_i hle
              cases h
              rw [(hrd b (by simp)).2 (by simp), hf, prowsOf_frame hx fun b hb => (hrd b (by simp [hb])).1]
              simp only; rw [if_pos hee, if_pos hle]
            · cases h
          · cases h
        · cases h
      · cases h
    · cases h
  case mm m xs =>
    cases xs with
    | nil => simp only [step] at h; cases h
    | cons x l =>
      simp only [step] at h ⊢
      rw [hev x (by simp), mmF_frame l _ fun y hy => hev y (by simp [hy])]
      exact h
  case build z ps =>
    simp only [step] at h ⊢
    rw [List.map_congr_left (g := fun (x : Nat × Nat × RA) => (x.1, x.2.1, ev x.2.2)) fun x hx => by
      show (x.1, x.2.1, ev' x.2.2) = _
      rw [hev x.2.2 (List.mem_map.2 ⟨x, hx, rfl⟩)]]
    exact h
  case bsl es n z ps =>
    simp only [step] at h ⊢
    rw [List.map_congr_left (g := fun (x : Nat × RA) => (x.1 * es, es, ev x.2)) fun x hx => by
      show (x.1 * es, es, ev' x.2) = _
      rw [hev x.2 (List.mem_map.2 ⟨x, hx, rfl⟩)]]
    exact h
end
end Go.Ab

/- The order of operations that do not clash is of no weight. Under: nothing. -/
namespace Go.Ab

def raT : RA → List Nat | .t n => [n] | _ => []
def RIns.reads (r : RIns) : List Nat := (r.op.operands.map raT).flatten ++ (match r.guard with | some (t, _) => [t] | none => [])

def dstIn (d : Option Nat) (l : List Nat) : Bool := match d with | none => false | some d => l.any (· == d)
def apartT (a b : RIns) : Bool := !dstIn a.dst b.reads && !dstIn b.dst a.reads && (match a.dst, b.dst with | some x, some y => x != y | _, _ => true)
def smallT (r : RIns) : Bool := r.reads.all (decide <| · < 1024) && (match r.dst with | some d => decide (d < 1024) | none => true)

/-- A new key for a map. -/
abbrev Ins := Option (Nat × List UInt8 × AV)

def insU (σ : Store) : Ins → Store
  | none => σ
  | some (b, k, v) => match find σ b with
    | some (.map ents) => upS σ b (some (.map (insK k v ents)))
    | _ => σ

def insF (ins : Ins) (b : Nat) (o : Option SObj) : Option SObj := match ins with
  | none => o
  | some (b', k, v) => if b' = b then (match o with | some (.map ents) => some (.map (insK k v ents)) | o => o) else o

theorem find_insU {σ : Store} {ins : Ins} {b : Nat} : find (insU σ ins) b = insF ins b (find σ b) := by
  cases ins with
  | none => rfl
  | some x =>
    obtain ⟨b', k, v⟩ := x
    simp only [insU, insF]
    by_cases h : b' = b
    · subst h
      rw [if_pos rfl]
      cases hf : find σ b' with
      | none => simp only [hf]
      | some o =>
        cases o with
        | map ents => simp only [find_upS, if_true]
        | arr e rs sl => simp only [hf]
        | box e rs sl => simp only [hf]
    · rw [if_neg h]
      split
      · rw [find_upS, if_neg (fun e => h e.symm)]
      · rfl

theorem insF_ne {b b' : Nat} {k : List UInt8} {v : AV} {o : Option SObj} (h : b' ≠ b) : insF (some (b', k, v)) b o = o := by simp only [insF, if_neg h]

def after (st : St) (r : RIns) (v : AV) (sl : List Nat) (up : List (Nat × Option SObj)) (ins : Ins) : St := putW st r.dst v (insU (upAll (sealAll st.σ sl) up) ins)

def insKey (ins : Ins) : Option (Nat × List UInt8) := match ins with | some (b, k, _) => some (b, k) | none => none

structure StEq (s s' : St) : Prop where
  tm : ∀ n, s'.tm.get tdepth n = s.tm.get tdepth n
  σ : ∀ b, find s'.σ b = find s.σ b
  nx : s'.nx = s.nx
  nt : s'.nt = s.nt

theorem StEq.refl (s : St) : StEq s s := ⟨fun _ => rfl, fun _ => rfl, rfl, rfl⟩
theorem StEq.trans {a b c : St} (h : StEq a b) (k : StEq b c) : StEq a c := ⟨fun n => (k.tm n).trans (h.tm n), fun n => (k.σ n).trans (h.σ n), k.nx.trans h.nx, k.nt.trans h.nt⟩

def upF : List (Nat × Option SObj) → Nat → Option (Option SObj)
  | [], _ => none
  | (b, x) :: l, b' => match upF l b' with | some y => some y | none => if b' = b then some x else none

theorem find_upAll : ∀ (l : List (Nat × Option SObj)) (s : Store) (b : Nat), find (upAll s l) b = match upF l b with | some x => x | none => find s b
  | [], s, b => rfl
  | (k, x) :: l, s, b => by
    simp only [upAll, upF]
    rw [find_upAll l, find_upS]
    cases upF l b with
    | some y => rfl
    | none => by_cases h : b = k <;> simp [h]

theorem upF_none : ∀ {l : List (Nat × Option SObj)} {b : Nat}, b ∉ l.map (·.1) → upF l b = none
  | [], _, _ => rfl
  | (k, x) :: l, b, h => by
    simp only [List.map_cons, List.mem_cons, not_or] at h
    simp only [upF]
    rw [upF_none h.2, if_neg h.1]

def sealIf (sl : List Nat) (b : Nat) (o : SObj) : SObj := if b ∈ sl then o.sealO else o

theorem find_after {σ : Store} {sl : List Nat} {up : List (Nat × Option SObj)} {b : Nat} : find (upAll (sealAll σ sl) up) b = match upF up b with | some x => x | none => (find σ b).map (sealIf sl b) := by
  rw [find_upAll, find_sealAll]; rfl

theorem seal_seal (o : SObj) : o.sealO.sealO = o.sealO := by cases o <;> rfl
theorem seal_sealIf (sl : List Nat) (b : Nat) (o : SObj) : (sealIf sl b o).sealO = o.sealO := by unfold sealIf; split <;> simp [seal_seal]
theorem sealIf_comm (a c : List Nat) (b : Nat) (o : SObj) : sealIf a b (sealIf c b o) = sealIf c b (sealIf a b o) := by
  unfold sealIf; split <;> split <;> simp [seal_seal]

section
variable (G : Gl) (Ok : Nat → List PV → Own → PV → Prop)

inductive What (r : RIns) (nm : Nat) (st : St) : AV → List Nat → List Nat → List (Nat × Option SObj) → Ins → Prop
  | ins {m k x : RA} {b : Nat} {s : List UInt8} {ents : List (List UInt8 × AV)} (hg : ∀ t want, r.guard = some (t, want) → st.ev G (.t t) = .pv (.bool want)) (ho : r.op = .insert m k x) (hm : st.ev G m = .mref b) (hk : st.ev G k = .pv (.str s))
      (hf : find st.σ b = some (.map ents)) (hl : lookupE s ents = none) : What r nm st .undef [] [] [] (some (b, s, st.ev G x))
  | op {e : Eff} (hni : ∀ m k x, r.op ≠ .insert m k x) (hg : ∀ t want, r.guard = some (t, want) → st.ev G (.t t) = .pv (.bool want)) (h : step st.σ nm (st.ev G) r.op = some e) : What r nm st e.v e.rd [] e.up none
  | call {f : RA} {args : List RA} {g : Nat} {a b : List AV} {ps : List PV} {m : List Nat} {own : Own} {res : PV} {v : AV} {up : List (Nat × Option SObj)}
      (hg : ∀ t want, r.guard = some (t, want) → st.ev G (.t t) = .pv (.bool want)) (ho : r.op = .call f args) (hc : calleeOf (st.ev G f) = some (g, a, b))
      (hnp : G.prim g = none) (hp : pubL (pub st.σ 8) (a ++ args.map (st.ev G) ++ b) = some (ps, m)) (hok : Ok g ps own res) (hi : imp own nm res = (v, up)) : What r nm st v [] m up none
  | prim {f : RA} {args : List RA} {g : Nat} {a b : List AV} {p : PrimF} {v : AV} {c es : Nat} {rows : List (List PV)} (hg : ∀ t want, r.guard = some (t, want) → st.ev G (.t t) = .pv (.bool want)) (ho : r.op = .call f args)
      (hc : calleeOf (st.ev G f) = some (g, a, b)) (hp : G.prim g = some p) (hr : p.run (a ++ args.map (st.ev G) ++ b) st.σ = some (v, c, es, rows)) : What r nm st v [c] [] [(c, some (.arr es rows false))] none
  | left {t : Nat} {want : Bool} (hg : r.guard = some (t, want)) (hv : st.ev G (.t t) = .pv (.bool (!want)) ∨ st.ev G (.t t) = .tup []) : What r nm st (.tup []) [] [] [] none

variable {G Ok}

theorem What.frame {r : RIns} {nm : Nat} {st st' : St} {v : AV} {rd sl : List Nat} {up : List (Nat × Option SObj)} {ins : Ins} (h : What G Ok r nm st v rd sl up ins)
    (ht : ∀ t ∈ r.reads, st'.tm.get tdepth t = st.tm.get tdepth t)
    (hb : ∀ b, b ∈ rd ∨ b ∈ sl → Alike st.σ st'.σ b ∧ (b ∈ up.map (·.1) → find st'.σ b = find st.σ b))
    (hins : ∀ b k v, ins = some (b, k, v) → ∀ ents, find st.σ b = some (.map ents) → lookupE k ents = none → ∃ ents', find st'.σ b = some (.map ents') ∧ lookupE k ents' = none) : What G Ok r nm st' v rd sl up ins := by
  have hev : ∀ x ∈ r.op.operands, st'.ev G x = st.ev G x := by
    intro x hx
    cases x with
    | t n => exact ht n (List.mem_append_left _ (List.mem_flatten.2 ⟨[n], List.mem_map.2 ⟨_, hx, rfl⟩, by simp⟩))
    | c v => rfl
    | f g => rfl
    | g i => rfl
  have hgd : ∀ t want, r.guard = some (t, want) → st'.ev G (.t t) = st.ev G (.t t) := fun t want hg => ht t (List.mem_append_right _ (by rw [hg]; simp))
  cases h with
  | ins hg ho hm hk hf hl =>
    rename_i m k x b s ents
    rw [ho] at hev
    simp only [ROp.operands, List.mem_cons, List.not_mem_nil, or_false, forall_eq_or_imp, forall_eq] at hev
    obtain ⟨ents', hf', hl'⟩ := hins _ _ _ rfl ents hf hl
    rw [← hev.2.2]
    exact .ins (fun t want e => (hgd t want e).trans (hg t want e)) ho (hev.1.trans hm) (hev.2.1.trans hk) hf' hl'
  | op hni hg h =>
    exact .op hni (fun t want e => (hgd t want e).trans (hg t want e)) (step_frame h hev fun b hb' => hb b (.inl hb'))
  | call hg ho hc hnp hp hok hi =>
    rename_i f args g a b ps own res
    rw [ho] at hev
    simp only [ROp.operands, List.mem_cons, forall_eq_or_imp] at hev
    refine .call (fun t want e => (hgd t want e).trans (hg t want e)) ho (by rw [hev.1]; exact hc) hnp ?_ hok hi
    rw [List.map_congr_left hev.2]
    exact pubL_frame (fun a p m => pub_frame 8 a p m) _ _ _ hp fun b hb' => (hb b (.inr hb')).1
  | prim hg ho hc hp hr =>
    rw [ho] at hev
    simp only [ROp.operands, List.mem_cons, forall_eq_or_imp] at hev
    refine .prim (fun t want e => (hgd t want e).trans (hg t want e)) ho (by rw [hev.1]; exact hc) hp ?_
    rw [List.map_congr_left hev.2]
    exact PrimF.frame _ hr ((hb _ (.inl (by simp))).2 (by simp))
  | left hg hv => exact .left hg (hv.imp (hgd _ _ hg).trans (hgd _ _ hg).trans)

theorem What.ins_nil {r : RIns} {nm : Nat} {st : St} {v : AV} {rd sl : List Nat} {up : List (Nat × Option SObj)} {x : Nat × List UInt8 × AV} (h : What G Ok r nm st v rd sl up (some x)) : rd = [] ∧ sl = [] ∧ up = [] := by
  cases h with
  | ins => exact ⟨rfl, rfl, rfl⟩

theorem get_put {st : St} {dst : Option Nat} {v : AV} {σ : Store} {n : Nat} (hn : n < 1024) (hd : ∀ d, dst = some d → d < 1024) :
    (putW st dst v σ).tm.get tdepth n = if dst = some n then v else st.tm.get tdepth n := by
  cases dst with
  | none => simp [putW]
  | some d =>
    simp only [putW, get_set]
    have := hd d rfl
    have e1 : n % 2 ^ tdepth = n := Nat.mod_eq_of_lt hn
    have e2 : d % 2 ^ tdepth = d := Nat.mod_eq_of_lt this
    rw [e1, e2]
    by_cases h : n = d
    · subst h; simp
    · have : ¬ d = n := fun e => h e.symm
      simp [h, this]

theorem get_put_eq {st st' : St} {dst : Option Nat} {v : AV} {σ σ' : Store} {n : Nat} (h : ∀ n, st'.tm.get tdepth n = st.tm.get tdepth n) :
    (putW st' dst v σ').tm.get tdepth n = (putW st dst v σ).tm.get tdepth n := by
  cases dst with
  | none => exact h n
  | some d =>
    simp only [putW, get_set]
    split
    · rfl
    · exact h n

theorem smallT_spec {r : RIns} (h : smallT r = true) : (∀ t ∈ r.reads, t < 1024) ∧ ∀ d, r.dst = some d → d < 1024 := by
  unfold smallT at h
  rw [Bool.and_eq_true] at h
  refine ⟨fun t ht => by simpa using List.all_eq_true.1 h.1 t ht, fun d hd => ?_⟩
  have := h.2
  rw [hd] at this
  simpa using this

theorem dstIn_spec {d : Option Nat} {l : List Nat} (h : dstIn d l = false) : ∀ t ∈ l, d ≠ some t := by
  intro t ht e
  subst e
  simp only [dstIn, List.any_eq_false, beq_iff_eq] at h
  exact h t ht rfl

theorem apartT_spec {a b : RIns} (h : apartT a b = true) : (∀ t ∈ b.reads, a.dst ≠ some t) ∧ (∀ t ∈ a.reads, b.dst ≠ some t) ∧ ∀ x y, a.dst = some x → b.dst = some y → x ≠ y := by
  simp only [apartT, Bool.and_eq_true, Bool.not_eq_true'] at h
  refine ⟨dstIn_spec h.1.1, dstIn_spec h.1.2, fun x y hx hy => ?_⟩
  have := h.2
  rw [hx, hy] at this
  simpa using this

theorem What.congr {r : RIns} {nm : Nat} {st st' : St} {v : AV} {rd sl : List Nat} {up : List (Nat × Option SObj)} {ins : Ins} (h : What G Ok r nm st v rd sl up ins) (he : StEq st st') : What G Ok r nm st' v rd sl up ins :=
  h.frame (fun t _ => he.tm t) (fun b _ => ⟨.of_eq (he.σ b), fun _ => he.σ b⟩) fun b _ _ _ ents hf hl => ⟨ents, (he.σ b).trans hf, hl⟩

theorem StEq.after {r : RIns} {st st' : St} {v : AV} {sl : List Nat} {up : List (Nat × Option SObj)} {ins : Ins} (he : StEq st st') : StEq (after st r v sl up ins) (after st' r v sl up ins) := by
  obtain ⟨d, o, g, p⟩ := r
  have hσ : ∀ b, find (insU (upAll (sealAll st'.σ sl) up) ins) b = find (insU (upAll (sealAll st.σ sl) up) ins) b := fun b => by rw [find_insU, find_insU, find_after, find_after, he.σ b]
  refine ⟨fun n => get_put_eq he.tm, ?_, ?_, ?_⟩ <;> cases d <;> first | exact hσ | exact he.nx | exact he.nt

theorem meets_spec {a b : List Nat} (h : meets a b = false) {x : Nat} (h1 : x ∈ a) (h2 : x ∈ b) : False := by
  unfold meets at h
  rw [List.any_eq_false] at h
  have := h x h1
  simp only [Bool.not_eq_true, List.any_eq_false, beq_iff_eq] at this
  exact this x h2 rfl

theorem after_σ {st : St} {r : RIns} {v : AV} {sl : List Nat} {up : List (Nat × Option SObj)} {ins : Ins} : (Ab.after st r v sl up ins).σ = insU (upAll (sealAll st.σ sl) up) ins := by
  unfold Ab.after putW; cases r.dst <;> rfl

theorem putW_σ {st : St} {d : Option Nat} {v : AV} {σ : Store} : (putW st d v σ).σ = σ := by cases d <;> rfl
theorem putW_nx {st : St} {d : Option Nat} {v : AV} {σ : Store} : (putW st d v σ).nx = st.nx := by cases d <;> rfl
theorem putW_nt {st : St} {d : Option Nat} {v : AV} {σ : Store} : (putW st d v σ).nt = st.nt := by cases d <;> rfl

theorem any_false {l : List Nat} {x : Nat} (h : l.any (· == x) = false) : x ∉ l := by
  intro hx
  rw [List.any_eq_false] at h
  exact h x hx (by simp)

theorem insMeets_spec {a b : Rec} {m : Nat} {k : List UInt8} (h : a.insMeets b = false) (ha : a.ins = some (m, k)) : m ∉ b.rd ∧ m ∉ b.sl ∧ m ∉ b.wr ∧ ∀ k', b.ins = some (m, k') → k ≠ k' := by
  unfold Rec.insMeets at h
  rw [ha] at h
  simp only [Bool.or_eq_false_iff] at h
  obtain ⟨⟨⟨h1, h2⟩, h3⟩, h4⟩ := h
  refine ⟨any_false h1, any_false h2, any_false h3, fun k' hb e => ?_⟩
  rw [hb] at h4
  simp [e] at h4

theorem map_sealIf {o : Option SObj} {sl : List Nat} {b : Nat} {ents : List (List UInt8 × AV)} : o.map (sealIf sl b) = some (.map ents) ↔ o = some (.map ents) := by
  cases o with
  | none => simp
  | some x =>
    simp only [Option.map_some, Option.some.injEq]
    unfold sealIf
    split
    · cases x <;> simp [SObj.sealO]
    · rfl

theorem insF_comm {i j : Ins} {b : Nat} {o : Option SObj} (h : ∀ m k v k' v', i = some (m, k, v) → j = some (m, k', v') → k ≠ k') : insF j b (insF i b o) = insF i b (insF j b o) := by
  cases i with
  | none => rfl
  | some x =>
    cases j with
    | none => rfl
    | some y =>
      obtain ⟨bi, ki, vi⟩ := x
      obtain ⟨bj, kj, vj⟩ := y
      simp only [insF]
      by_cases h1 : bi = b <;> by_cases h2 : bj = b <;> simp only [h1, h2, if_true, if_false]
      subst h1; subst h2
      cases o with
      | none => rfl
      | some o =>
        cases o with
        | map ents => simp only; rw [insK_comm (fun e => h _ _ _ _ _ rfl rfl e.symm)]
        | _ => rfl

/-- Two that do not clash may change places. -/
theorem What.swap {i j : RIns} {ni nj : Nat} {st : St} {vi vj : AV} {rdi sli rdj slj : List Nat} {upi upj : List (Nat × Option SObj)} {insi insj : Ins}
    (hi : What G Ok i ni st vi rdi sli upi insi) (hj : What G Ok j nj (Ab.after st i vi sli upi insi) vj rdj slj upj insj)
    (hsi : smallT i = true) (hsj : smallT j = true) (ha : apartT i j = true)
    (hc : Rec.clash ⟨rdi, sli, upi.map (·.1), i.pre, insKey insi⟩ ⟨rdj, slj, upj.map (·.1), j.pre, insKey insj⟩ = false) :
    What G Ok j nj st vj rdj slj upj insj ∧ What G Ok i ni (Ab.after st j vj slj upj insj) vi rdi sli upi insi ∧
      StEq (Ab.after (Ab.after st i vi sli upi insi) j vj slj upj insj) (Ab.after (Ab.after st j vj slj upj insj) i vi sli upi insi) := by
  simp only [Rec.clash, Bool.or_eq_false_iff] at hc
  obtain ⟨⟨⟨⟨⟨⟨c1, c2⟩, c3⟩, c4⟩, c5⟩, c6⟩, c7⟩ := hc
  obtain ⟨a1, a2, a3⟩ := apartT_spec ha
  obtain ⟨ri, di⟩ := smallT_spec hsi
  obtain ⟨rj, dj⟩ := smallT_spec hsj
  have ci : ∀ m k v, insi = some (m, k, v) → m ∉ rdj ∧ m ∉ slj ∧ m ∉ upj.map (·.1) ∧ ∀ k' v', insj = some (m, k', v') → k ≠ k' := fun m k v e => by
    subst e
    obtain ⟨h1, h2, h3, h4⟩ := insMeets_spec c6 rfl
    exact ⟨h1, h2, h3, fun k' v' e => by subst e; exact h4 k' rfl⟩
  have cj : ∀ m k v, insj = some (m, k, v) → m ∉ rdi ∧ m ∉ sli ∧ m ∉ upi.map (·.1) ∧ ∀ k' v', insi = some (m, k', v') → k ≠ k' := fun m k v e => by
    subst e
    obtain ⟨h1, h2, h3, h4⟩ := insMeets_spec c7 rfl
    exact ⟨h1, h2, h3, fun k' v' e => by subst e; exact h4 k' rfl⟩
  have ineI : ∀ b, b ∈ rdj ∨ b ∈ slj → ∀ o, insF insi b o = o := fun b hb o => by
    cases insi with
    | none => rfl
    | some x =>
      obtain ⟨m, k, v⟩ := x
      obtain ⟨h1, h2, _⟩ := ci m k v rfl
      exact insF_ne fun e => by subst e; exact hb.elim h1 h2
  have ineJ : ∀ b, b ∈ rdi ∨ b ∈ sli → ∀ o, insF insj b o = o := fun b hb o => by
    cases insj with
    | none => rfl
    | some x =>
      obtain ⟨m, k, v⟩ := x
      obtain ⟨h1, h2, _⟩ := cj m k v rfl
      exact insF_ne fun e => by subst e; exact hb.elim h1 h2
  have hj' : What G Ok j nj st vj rdj slj upj insj := by
    refine hj.frame (fun t ht => ?_) (fun b hb => ?_) fun b k v e ents hf hl => ?_
    · show _ = (putW st i.dst vi _).tm.get tdepth t
      rw [get_put (rj t ht) di, if_neg (a1 t ht)]
    · have hn : b ∉ upi.map (·.1) := fun h => hb.elim (meets_spec c1 h) (meets_spec c2 h)
      refine ⟨?_, fun hu => ?_⟩
      · unfold Alike
        rw [after_σ, find_insU, find_after, upF_none hn, ineI b hb]
        simp only [Option.map_map]
        congr 1
        funext o; simp [seal_sealIf]
      · have hs : b ∉ sli := fun h => meets_spec c5 h hu
        rw [after_σ, find_insU, find_after, upF_none hn, ineI b hb]
        simp only
        have : sealIf sli b = id := by funext o; simp [sealIf, hs]
        rw [this]; simp
    · obtain ⟨h1, h2, h3, h4⟩ := cj b k v e
      rw [after_σ, find_insU, find_after, upF_none h3] at hf
      simp only at hf
      cases hii : insi with
      | none =>
        rw [hii] at hf
        exact ⟨ents, map_sealIf.1 hf, hl⟩
      | some x =>
        obtain ⟨m, ki, vi'⟩ := x
        rw [hii] at hf
        by_cases em : m = b
        · subst em
          simp only [insF, if_true] at hf
          split at hf
          · rename_i ents0 hf0
            cases hf
            refine ⟨ents0, map_sealIf.1 hf0, ?_⟩
            rw [lookupE_insK_ne (h4 ki vi' hii)] at hl
            exact hl
          · exact ⟨ents, map_sealIf.1 hf, hl⟩
        · rw [insF_ne em] at hf
          exact ⟨ents, map_sealIf.1 hf, hl⟩
  refine ⟨hj', ?_, ?_⟩
  · refine hi.frame (fun t ht => ?_) (fun b hb => ?_) fun b k v e ents hf hl => ?_
    · show (putW st j.dst vj _).tm.get tdepth t = _
      rw [get_put (ri t ht) dj, if_neg (a2 t ht)]
    · have hn : b ∉ upj.map (·.1) := fun h => hb.elim (fun h' => meets_spec c4 h' h) (fun h' => meets_spec c5 h' h)
      refine ⟨?_, fun hu => ?_⟩
      · unfold Alike
        rw [after_σ, find_insU, find_after, upF_none hn, ineJ b hb]
        simp only [Option.map_map]
        congr 1
        funext o; simp [seal_sealIf]
      · have hs : b ∉ slj := fun h => meets_spec c2 hu h
        rw [after_σ, find_insU, find_after, upF_none hn, ineJ b hb]
        simp only
        have : sealIf slj b = id := by funext o; simp [sealIf, hs]
        rw [this]; simp
    · obtain ⟨h1, h2, h3, h4⟩ := ci b k v e
      rw [after_σ, find_insU, find_after, upF_none h3]
      simp only
      rw [map_sealIf.2 hf]
      cases hjj : insj with
      | none => exact ⟨ents, rfl, hl⟩
      | some x =>
        obtain ⟨m, kj, vj'⟩ := x
        by_cases em : m = b
        · subst em
          simp only [insF, if_true]
          exact ⟨_, rfl, by rw [lookupE_insK_ne (h4 kj vj' hjj)]; exact hl⟩
        · rw [insF_ne em]; exact ⟨ents, rfl, hl⟩
  · refine ⟨fun n => ?_, fun b => ?_, ?_, ?_⟩
    · simp only [Ab.after, putW]
      cases hid : i.dst with
      | none => cases j.dst <;> rfl
      | some x =>
        cases hjd : j.dst with
        | none => rfl
        | some y =>
          have hne := a3 x y hid hjd
          have e1 : x % 2 ^ tdepth = x := Nat.mod_eq_of_lt (di x hid)
          have e2 : y % 2 ^ tdepth = y := Nat.mod_eq_of_lt (dj y hjd)
          simp only [get_set, e1, e2]
          by_cases h1 : n % 2 ^ tdepth = x <;> by_cases h2 : n % 2 ^ tdepth = y
          · exact absurd (h1.symm.trans h2) hne
          · rw [if_pos h1, if_neg h2, if_pos h1]
          · rw [if_neg h1, if_pos h2, if_pos h2]
          · rw [if_neg h1, if_neg h2, if_neg h2, if_neg h1]
    · have F : ∀ (st : St) (r : RIns) (v : AV) (sl : List Nat) (up : List (Nat × Option SObj)) (ins : Ins), find (Ab.after st r v sl up ins).σ b = insF ins b (match upF up b with | some x => x | none => (find st.σ b).map (sealIf sl b)) := fun st r v sl up ins => by
        rw [after_σ, find_insU, find_after]
      rw [F, F, F, F]
      have hcomm := fun o => insF_comm (i := insi) (j := insj) (b := b) (o := o) fun m k v k' v' e e' => (ci m k v e).2.2.2 k' v' e'
      have old : (match upF upj b with | some x => x | none => (match upF upi b with | some x => x | none => (find st.σ b).map (sealIf sli b)).map (sealIf slj b)) = (match upF upi b with | some x => x | none => (match upF upj b with | some x => x | none => (find st.σ b).map (sealIf slj b)).map (sealIf sli b)) := by
        by_cases h1 : b ∈ upi.map (·.1)
        · have n2 : b ∉ upj.map (·.1) := fun h => meets_spec c3 h1 h
          have n3 : b ∉ slj := fun h => meets_spec c2 h1 h
          rw [upF_none n2]
          cases hu : upF upi b with
          | none =>
            simp only [Option.map_map]
            congr 1
            funext o; simp [sealIf, n3]
          | some x =>
            simp only
            have : sealIf slj b = id := by funext o; simp [sealIf, n3]
            rw [this]; simp
        · rw [upF_none h1]
          cases hu : upF upj b with
          | none =>
            simp only [Option.map_map]
            congr 1
            funext o; simp [sealIf_comm]
          | some x =>
            simp only
            have hm : b ∈ upj.map (·.1) := Decidable.byContradiction fun hm => by rw [upF_none hm] at hu; cases hu
            have n3 : b ∉ sli := fun h => meets_spec c5 h hm
            have : sealIf sli b = id := by funext o; simp [sealIf, n3]
            rw [this]; simp
      cases hii : insi with
      | none =>
        cases hjj : insj with
        | none => exact old.symm
        | some y =>
          subst hjj
          obtain ⟨_, e1, e2⟩ := hj.ins_nil
          subst e1; subst e2
          obtain ⟨m, k, v⟩ := y
          obtain ⟨h1, h2, h3, _⟩ := cj m k v rfl
          simp only [upF, insF]
          have hid : sealIf [] b = id := by funext o; simp [sealIf]
          rw [hid]
          by_cases em : m = b
          · subst em
            rw [upF_none h3]
            have : sealIf sli m = id := by funext o; simp [sealIf, h2]
            simp only [this, Option.map_id, id]
          · simp only [if_neg em, Option.map_id, id]
      | some x =>
        subst hii
        obtain ⟨_, e1, e2⟩ := hi.ins_nil
        subst e1; subst e2
        cases hjj : insj with
        | none =>
          obtain ⟨m, k, v⟩ := x
          obtain ⟨h1, h2, h3, _⟩ := ci m k v rfl
          simp only [upF, insF]
          have hid : sealIf [] b = id := by funext o; simp [sealIf]
          rw [hid]
          by_cases em : m = b
          · subst em
            rw [upF_none h3]
            have : sealIf slj m = id := by funext o; simp [sealIf, h2]
            simp only [this, Option.map_id, id]
          · simp only [if_neg em, Option.map_id, id]
        | some y =>
          subst hjj
          obtain ⟨_, e1, e2⟩ := hj.ins_nil
          subst e1; subst e2
          have hid : sealIf [] b = id := by funext o; simp [sealIf]
          simp only [upF, hid, Option.map_id, id]
          exact (hcomm _).symm
    · simp only [Ab.after, putW_nx]
    · simp only [Ab.after, putW_nt]
end
end Go.Ab

/- A region's abstract run as a list of effects, and its order. Under: nothing. -/
namespace Go.Ab

structure Dat where
  v : AV
  rd : List Nat
  sl : List Nat
  up : List (Nat × Option SObj)
  ins : Ins

def Dat.toRec (d : Dat) (r : RIns) : Rec := ⟨d.rd, d.sl, d.up.map (·.1), r.pre, insKey d.ins⟩

theorem StEq.symm {a b : St} (h : StEq a b) : StEq b a := ⟨fun n => (h.tm n).symm, fun n => (h.σ n).symm, h.nx.symm, h.nt.symm⟩

section
variable (G : Gl) (Ok : Nat → List PV → Own → PV → Prop)

def WhatD (r : RIns) (nm : Nat) (st : St) (d : Dat) : Prop := What G Ok r nm st d.v d.rd d.sl d.up d.ins
def afterD (st : St) (r : RIns) (d : Dat) : St := after st r d.v d.sl d.up d.ins

def RunR (ins : Nat → RIns) (nmf : Nat → Nat) (dat : Nat → Dat) : List Nat → St → St → Prop
  | [], st, st' => StEq st st'
  | i :: L, st, st' => WhatD G Ok (ins i) (nmf i) st (dat i) ∧ RunR ins nmf dat L (afterD st (ins i) (dat i)) st'

variable {G Ok}
variable {ins : Nat → RIns} {nmf : Nat → Nat} {dat : Nat → Dat}

theorem RunR.congr : ∀ (L : List Nat) {st st' sf : St}, RunR G Ok ins nmf dat L st sf → StEq st st' → RunR G Ok ins nmf dat L st' sf
  | [], _, _, _, h, e => e.symm.trans h
  | _ :: L, _, _, _, h, e => ⟨What.congr h.1 e, RunR.congr L h.2 (StEq.after e)⟩

theorem RunR.same_dat {dat' : Nat → Dat} : ∀ (L : List Nat) {st sf : St}, (∀ i ∈ L, dat' i = dat i) → RunR G Ok ins nmf dat L st sf → RunR G Ok ins nmf dat' L st sf
  | [], _, _, _, h => h
  | i :: L, _, _, hd, h => by
    have e := hd i (by simp)
    refine ⟨by rw [e]; exact h.1, ?_⟩
    rw [e]
    exact RunR.same_dat L (fun k hk => hd k (by simp [hk])) h.2

theorem RunR.front {j : Nat} {C : List Nat} (hj : smallT (ins j) = true) : ∀ (A : List Nat) {st sf : St},
    (∀ i ∈ A, smallT (ins i) = true ∧ apartT (ins i) (ins j) = true ∧ ((dat i).toRec (ins i)).clash ((dat j).toRec (ins j)) = false) →
    RunR G Ok ins nmf dat (A ++ j :: C) st sf → WhatD G Ok (ins j) (nmf j) st (dat j) ∧ RunR G Ok ins nmf dat (A ++ C) (afterD st (ins j) (dat j)) sf
  | [], _, _, _, h => h
  | i :: A, st, sf, hA, h => by
    obtain ⟨h1, h2⟩ := h
    obtain ⟨h3, h4⟩ := RunR.front hj A (fun k hk => hA k (by simp [hk])) h2
    obtain ⟨s1, s2, s3⟩ := hA i (by simp)
    obtain ⟨k1, k2, k3⟩ := What.swap h1 h3 s1 hj s2 s3
    exact ⟨k1, k2, RunR.congr _ h4 k3⟩

theorem compatOne_spec {r : Rec} : ∀ (l : List Rec) (i : Nat), compatOne r i l = true → ∀ k x, l[k]? = some x → x.clash r = true → r.pre.testBit (i + k) = true
  | [], _, _, k, x, h => by simp at h
  | y :: l, i, h, k, x, hx => by
    simp only [compatOne, Bool.and_eq_true, Bool.or_eq_true, Bool.not_eq_true'] at h
    cases k with
    | zero => simp at hx; subst hx; intro hc; rcases h.1 with h | h; · rw [h] at hc; cases hc
              · exact h
    | succ k =>
      simp at hx
      intro hc
      have := compatOne_spec l (i + 1) h.2 k x hx hc
      have e : i + 1 + k = i + (k + 1) := by omega
      rwa [e] at this

theorem compat_spec : ∀ (l done : List Rec), compat done l = true → ∀ i j x r, i < j → done.length ≤ j → (done ++ l)[i]? = some x → (done ++ l)[j]? = some r → x.clash r = true → r.pre.testBit i = true
  | [], done, _, i, j, x, r, hij, hd, hx, hr => by
    simp at hr; have := (List.getElem?_eq_some_iff.1 hr).1; omega
  | y :: l, done, h, i, j, x, r, hij, hd, hx, hr => by
    simp only [compat, Bool.and_eq_true] at h
    by_cases e : j = done.length
    · subst e
      simp at hr; subst hr
      intro hc
      rw [List.getElem?_append_left hij] at hx
      have := compatOne_spec done 0 h.1 i x hx hc
      simpa using this
    · have : done ++ y :: l = (done ++ [y]) ++ l := by simp
      rw [this] at hx hr
      exact compat_spec l _ h.2 i j x r hij (by simp; omega) hx hr

theorem opW_what {r : RIns} {nm : Nat} {st : St} {K : St → Rec → Prop} (hg : ∀ t want, r.guard = some (t, want) → st.ev G (.t t) = .pv (.bool want)) (h : opW G Ok r nm st K) :
    ∃ d, WhatD G Ok r nm st d ∧ K (afterD st r d) (d.toRec r) := by
  unfold opW at h
  split at h
  · rename_i f args ho
    split at h
    · rename_i g a b hc
      split at h
      · rename_i p hp
        obtain ⟨tm, σ, nx, nt⟩ := st
        split at h
        · rename_i v c es rows _ _ _ _ hr he
          cases he
          simp only [forceN_eq, upAllK_eq, putK_eq] at h
          exact ⟨⟨v, [c], [], [(c, some (.arr es rows false))], none⟩, .prim hg ho hc hp hr, h⟩
        · exact h.elim
      · rename_i hnp
        split at h
        · rename_i ps m hp
          obtain ⟨own, res, hok, h⟩ := h
          obtain ⟨tm, σ, nx, nt⟩ := st
          generalize himp : imp own nm res = vu at h
          obtain ⟨v, up⟩ := vu
          simp only [sealAllK_eq, upAllK_eq, putK_eq] at h
          exact ⟨⟨v, [], m, up, none⟩, .call hg ho hc hnp hp hok himp, h⟩
        · exact h.elim
    · exact h.elim
  · rename_i hn
    obtain ⟨tm, σ, nx, nt⟩ := st
    simp only at h
    split at h
    · rename_i e he
      rw [upAllK_eq, putK_eq] at h
      by_cases hi : ∃ m k x, r.op = .insert m k x
      · obtain ⟨m, k, x, ho⟩ := hi
        have he' := he
        rw [ho] at he'
        simp only [step] at he'
        split at he'
        · rename_i b s hm hk
          split at he'
          · rename_i ents hf
            split at he'
            · rename_i hl
              cases he'
              refine ⟨⟨.undef, [], [], [], some (b, s, St.ev G ⟨tm, σ, nx, nt⟩ x)⟩, .ins hg ho hm hk hf hl, ?_⟩
              have e1 : recOf (St.ev G ⟨tm, σ, nx, nt⟩) r.op { v := .undef, rd := [b], up := [(b, some (.map (insK s (St.ev G ⟨tm, σ, nx, nt⟩ x) ents)))] } r.pre = Dat.toRec ⟨.undef, [], [], [], some (b, s, St.ev G ⟨tm, σ, nx, nt⟩ x)⟩ r := by
                simp only [recOf, ho, hm, hk]; rfl
              rw [e1] at h
              have e2 : afterD ⟨tm, σ, nx, nt⟩ r ⟨.undef, [], [], [], some (b, s, St.ev G ⟨tm, σ, nx, nt⟩ x)⟩ = putW ⟨tm, σ, nx, nt⟩ r.dst .undef (upAll σ [(b, some (.map (insK s (St.ev G ⟨tm, σ, nx, nt⟩ x) ents)))]) := by
                simp only [afterD, after, sealAll, upAll, insU, hf]
              rw [e2]
              exact h
            · cases he'
          · cases he'
        · cases he'
      · have hni : ∀ m k x, r.op ≠ .insert m k x := fun m k x e => hi ⟨m, k, x, e⟩
        refine ⟨⟨e.v, e.rd, [], e.up, none⟩, .op hni hg he, ?_⟩
        have e1 : recOf (St.ev G ⟨tm, σ, nx, nt⟩) r.op e r.pre = Dat.toRec ⟨e.v, e.rd, [], e.up, none⟩ r := by
          unfold recOf
          split
          · rename_i m k x ho; exact absurd ho (hni m k x)
          · rfl
        rw [e1] at h
        exact h
    · exact h.elim

theorem insW_what {r : RIns} {nm : Nat} {st : St} {K : St → Rec → Prop} (h : insW G Ok r nm st K) : ∃ d, WhatD G Ok r nm st d ∧ K (afterD st r d) (d.toRec r) := by
  unfold insW at h
  split at h
  · rename_i hg
    exact opW_what (fun t want e => by rw [hg] at e; cases e) h
  · rename_i t want hg
    split at h
    · rename_i x hx
      have hdo : x = want → opW G Ok r nm st K → ∃ d, WhatD G Ok r nm st d ∧ K (afterD st r d) (d.toRec r) := fun e h =>
        opW_what (fun t' want' e' => by rw [hg] at e'; cases e'; rw [hx, e]) h
      have hno : x = !want → (match st with | ⟨tm, σ, nx, nt⟩ => putK ⟨tm, σ, nx, nt⟩ r.dst (.tup []) σ fun st' => K st' { rd := [], sl := [], wr := [], pre := r.pre }) →
          ∃ d, WhatD G Ok r nm st d ∧ K (afterD st r d) (d.toRec r) := by
        intro e h
        refine ⟨⟨.tup [], [], [], [], none⟩, .left hg (.inl (by rw [hx, e])), ?_⟩
        obtain ⟨tm, σ, nx, nt⟩ := st
        simp only [putK_eq] at h
        exact h
      cases x <;> cases want <;> simp only at h
      · exact hdo rfl h
      · exact hno rfl h
      · exact hno rfl h
      · exact hdo rfl h
    · rename_i hx
      refine ⟨⟨.tup [], [], [], [], none⟩, .left hg (.inr hx), ?_⟩
      obtain ⟨tm, σ, nx, nt⟩ := st
      simp only [putK_eq] at h
      exact h
    · exact h.elim

theorem opsW_run (full : List RIns) (nx0 : Nat) (draw : Bool) : ∀ (l : List RIns) (k : Nat) (recs : List Rec) (st : St) (K : St → Prop), full.drop k = l →
    opsW G Ok draw l (nx0 + stride * k) recs st K →
    ∃ (dat : Nat → Dat) (sf : St), RunR G Ok (fun i => full.getD i default) (fun i => nx0 + stride * i) dat (List.range' k l.length) st sf ∧ K sf ∧
      (draw = true → compat [] (recs ++ (List.range' k l.length).map fun i => (dat i).toRec (full.getD i default)) = true)
  | [], k, recs, st, K, _, h => by
    simp only [opsW] at h
    refine ⟨fun _ => ⟨.undef, [], [], [], none⟩, st, StEq.refl st, ?_⟩
    cases draw
    · exact ⟨h, fun e => by cases e⟩
    · simp only at h
      split at h
      · rename_i hc; exact ⟨h, fun _ => by simpa using hc⟩
      · exact h.elim
  | r :: l, k, recs, st, K, hfull, h => by
    simp only [opsW, forceN_eq] at h
    obtain ⟨d, hd, h⟩ := insW_what h
    have hk : full.getD k default = r := by
      have : (full.drop k)[0]? = some r := by rw [hfull]; rfl
      rw [List.getElem?_drop] at this
      simp only [Nat.add_zero] at this
      simp [List.getD, this]
    have hdrop : full.drop (k + 1) = l := by
      have := congrArg (List.drop 1) hfull
      rw [List.drop_drop] at this
      simpa using this
    have e : nx0 + stride * k + stride = nx0 + stride * (k + 1) := by rw [Nat.mul_succ]; omega
    rw [e] at h
    obtain ⟨dat, sf, h1, h2, h3⟩ := opsW_run full nx0 draw l (k + 1) _ _ K hdrop h
    have hne : ∀ i ∈ List.range' (k + 1) l.length, i ≠ k := fun i hi => by have := List.mem_range'_1.1 hi; omega
    refine ⟨fun i => if i = k then d else dat i, sf, ?_, h2, fun hdr => ?_⟩
    · show RunR G Ok _ _ _ (k :: List.range' (k + 1) l.length) st sf
      refine ⟨?_, ?_⟩
      · simp only [if_true, hk]; exact hd
      · simp only [if_true, hk]
        exact RunR.same_dat _ (fun i hi => by rw [if_neg (hne i hi)]) h1
    · have h3 := h3 hdr
      subst hdr
      simp only at h3
      show compat [] (recs ++ List.map _ (k :: List.range' (k + 1) l.length)) = true
      simp only [List.map_cons, if_true]
      rw [hk]
      have em : (List.range' (k + 1) l.length).map (fun i => ((if i = k then d else dat i).toRec (full.getD i default))) = (List.range' (k + 1) l.length).map fun i => (dat i).toRec (full.getD i default) :=
        List.map_congr_left fun i hi => by rw [if_neg (hne i hi)]
      rw [em]
      simpa using h3
end
end Go.Ab

/- A published value is pure from then on. Under: nothing. -/
namespace Go.Ab
open Go.RowKit
section
variable {B : Nat} {w : World} {I : Imm} {ι : Nat → Option Nat} {σ : Store} {D : Nat → Prop} {M : List Nat}

theorem own_pub (hs : SimS B w I ι σ D) {b i n : Nat} {o : SObj} {v : Value} {ps : List (List PV)} (hM : b ∈ M) (hf : find σ b = some o) (hm : o.isMap = false) (hv : OwnVal w ι o b i n v)
    (hl : ps.length = n) (hrow : ∀ k, k < n → ∃ row prow, o.row? (i + k) = some row ∧ ps[k]? = some prow ∧ row.length = prow.length ∧
      ∀ (j : Nat) (a : AV) (q : PV) (x : Value), row[j]? = some a → prow[j]? = some q → RepA w I ι σ D x a → RepP w (sealI I ι σ M) x q) : RepP w (sealI I ι σ M) v (.sl o.es ps) := by
  obtain ⟨p, cap, rfl, hin, hcap, hcase⟩ := hv
  by_cases h0 : n = 0
  · subst h0
    have : ps = [] := List.eq_nil_of_length_eq_zero hl
    subst this
    exact .sl (fun _ _ => default) rfl (by omega) (fun i row h => by simp at h) (fun h => absurd rfl h) (fun i j row q h => by simp at h)
  · rcases hcase with ⟨h, _⟩ | ⟨r, c, T, fz, hr, rfl, hheap, hsz⟩
    · exact absurd h h0
    · have cell : ∀ k j, k < n → j < o.es → ∃ row prow a q x, o.row? (i + k) = some row ∧ ps[k]? = some prow ∧ row[j]? = some a ∧ prow[j]? = some q ∧ c[(i + k) * o.es + j]? = some x ∧ RepC w I ι σ D x a ∧ RepP w (sealI I ι σ M) x q := by
        intro k j hk hj
        obtain ⟨row, prow, h1, h2, h3, h4⟩ := hrow k hk
        obtain ⟨r', c', T', fz', k1, k2, k3, k4, k5, k6⟩ := row_cells hs hf h1
        rw [hr] at k1; cases k1
        rw [hheap] at k2; cases k2
        have ha : j < row.length := by rw [k5]; exact hj
        have hq : j < prow.length := by rw [← h3]; exact ha
        obtain ⟨x, hx, hrep⟩ := k6 j _ (List.getElem?_eq_getElem ha)
        exact ⟨row, prow, _, _, x, h1, h2, List.getElem?_eq_getElem ha, List.getElem?_eq_getElem hq, hx, hrep, h4 j _ _ x (List.getElem?_eq_getElem ha) (List.getElem?_eq_getElem hq) hrep.2⟩
      refine .sl (fun k j => (c[(i + k) * o.es + j]?).getD default) hl (by omega) (fun k prow h => ?_) (fun _ => ⟨_, rfl, rfl, fun k j hk hj => ?_⟩) (fun k j prow q h hq => ?_)
      · obtain ⟨row, prow', h1, h2, h3, _⟩ := hrow k (by rw [← hl]; exact (List.getElem?_eq_some_iff.1 h).1)
        rw [h2] at h; cases h
        obtain ⟨_, _, _, _, _, _, _, _, k5, _⟩ := row_cells hs hf h1
        rw [← h3, k5]
      · obtain ⟨row, prow, a, q, x, h1, h2, h3, h4, h5, h6, h7⟩ := cell k j (by omega) hj
        have e : i * o.es + (k * o.es + j) = (i + k) * o.es + j := by rw [Nat.add_mul]; omega
        refine ⟨?_, ?_, ?_⟩
        · rw [cell_of hheap, e, h5]; rfl
        · refine .inr ⟨b, o, hM, hf, hm, hr, ?_⟩
          rw [e]
          have : i + k < o.len := by omega
          calc (i + k) * o.es + j < (i + k) * o.es + o.es := by omega
            _ = (i + k + 1) * o.es := by rw [Nat.add_mul (i + k) 1, Nat.one_mul]
            _ ≤ o.len * o.es := Nat.mul_le_mul_right _ this
        · rw [h5]; exact h6.1
      · have hk : k < n := by rw [← hl]; exact (List.getElem?_eq_some_iff.1 h).1
        obtain ⟨row, prow', h1, h2, h3, _⟩ := hrow k hk
        rw [h2] at h; cases h
        have hj : j < o.es := by
          obtain ⟨_, _, _, _, _, _, _, _, k5, _⟩ := row_cells hs hf h1
          rw [← k5, h3]; exact (List.getElem?_eq_some_iff.1 hq).1
        obtain ⟨row', prow', a, q', x, g1, g2, g3, g4, g5, g6, g7⟩ := cell k j hk hj
        rw [h2] at g2; cases g2
        rw [hq] at g4; cases g4
        rw [g5]; exact g7

theorem keeps_seal : Keeps w I w (sealI I ι σ M) := fun _ _ _ hi hx => ⟨hx, .inl hi⟩

/-- What 'f' publishes is pure. -/
def PubOk (w : World) (I : Imm) (ι : Nat → Option Nat) (σ : Store) (D : Nat → Prop) (M : List Nat) (f : AV → Option (PV × List Nat)) : Prop :=
  ∀ a p m v, f a = some (p, m) → (∀ b ∈ m, b ∈ M) → RepA w I ι σ D v a → RepP w (sealI I ι σ M) v p

theorem pubL_rep {f : AV → Option (PV × List Nat)} (hf : PubOk w I ι σ D M f) : ∀ (l : List AV) (ps : List PV) (m : List Nat), pubL f l = some (ps, m) → (∀ b ∈ m, b ∈ M) →
    l.length = ps.length ∧ ∀ (j : Nat) (a : AV) (q : PV) (x : Value), l[j]? = some a → ps[j]? = some q → RepA w I ι σ D x a → RepP w (sealI I ι σ M) x q
  | [], ps, m, h, _ => by simp only [pubL] at h; cases h; exact ⟨rfl, fun j a q x h => by simp at h⟩
  | a :: l, ps, m, h, hm => by
    simp only [pubL] at h
    split at h
    · rename_i p n hp
      split at h
      · rename_i ps' m' hps
        cases h
        obtain ⟨e, hr⟩ := pubL_rep hf l ps' m' hps fun b hb => hm b (List.mem_append_right _ hb)
        refine ⟨by simp [e], fun j a' q x ha hq hx => ?_⟩
        cases j with
        | zero => simp at ha hq; subst ha; subst hq; exact hf _ _ _ x hp (fun b hb => hm b (List.mem_append_left _ hb)) hx
        | succ j => simp at ha hq; exact hr j a' q x ha hq hx
      · cases h
    · cases h

theorem pubR_rep {f : AV → Option (PV × List Nat)} (hf : PubOk w I ι σ D M f) : ∀ (l : List (List AV)) (ps : List (List PV)) (m : List Nat), pubR f l = some (ps, m) → (∀ b ∈ m, b ∈ M) →
    l.length = ps.length ∧ ∀ (k : Nat) (row : List AV) (prow : List PV), l[k]? = some row → ps[k]? = some prow → row.length = prow.length ∧
      ∀ (j : Nat) (a : AV) (q : PV) (x : Value), row[j]? = some a → prow[j]? = some q → RepA w I ι σ D x a → RepP w (sealI I ι σ M) x q
  | [], ps, m, h, _ => by simp only [pubR] at h; cases h; exact ⟨rfl, fun j a q h => by simp at h⟩
  | a :: l, ps, m, h, hm => by
    simp only [pubR] at h
    split at h
    · rename_i p n hp
      split at h
      · rename_i ps' m' hps
        cases h
        obtain ⟨e, hr⟩ := pubR_rep hf l ps' m' hps fun b hb => hm b (List.mem_append_right _ hb)
        refine ⟨by simp [e], fun j row prow ha hq => ?_⟩
        cases j with
        | zero => simp at ha hq; subst ha; subst hq; exact pubL_rep hf _ _ _ hp fun b hb => hm b (List.mem_append_left _ hb)
        | succ j => simp at ha hq; exact hr j row prow ha hq
      · cases h
    · cases h

theorem pub_rep (hs : SimS B w I ι σ D) : ∀ k, PubOk w I ι σ D M (pub σ k) := by
  have pure : ∀ {v : Value} {p : PV}, RepA w I ι σ D v (.pv p) → RepP w (sealI I ι σ M) v p := fun h => by cases h with | pv h => exact h.mono keeps_seal
  have emp : ∀ {v : Value} {es : Nat}, RepA w I ι σ D v (.emp es) → RepP w (sealI I ι σ M) v (.emp es) := fun h => by
    cases h
    exact .emp _
  have fsl : ∀ {v : Value} {es : Nat} {rows : List (List PV)}, RepA w I ι σ D v (.fsl es rows) → RepP w (sealI I ι σ M) v (.sl es rows) := fun h => by
    cases h with | fsl h => exact h.mono keeps_seal
  intro k
  induction k with
  | zero =>
    intro a p m v h hm hv
    cases a <;> simp only [pub] at h <;> cases h
    · exact pure hv
    · exact emp hv
    · exact fsl hv
  | succ k ih =>
    intro a p m v h hm hv
    cases a with
    | pv p => simp only [pub] at h; cases h; exact pure hv
    | emp es => simp only [pub] at h; cases h; exact emp hv
    | fsl es rows => simp only [pub] at h; cases h; exact fsl hv
    | agg cs =>
      simp only [pub] at h
      split at h
      · rename_i ps n hp
        cases h
        cases hv with
        | agg hl h =>
          obtain ⟨e, hr⟩ := pubL_rep ih _ _ _ hp hm
          refine .agg (by rw [hl, e]) fun j x q hx hq => ?_
          have hj : j < cs.length := by rw [e]; exact (List.getElem?_eq_some_iff.1 hq).1
          exact hr j _ q x (List.getElem?_eq_getElem hj) hq (h j x _ hx (List.getElem?_eq_getElem hj))
      · cases h
    | tup cs =>
      simp only [pub] at h
      split at h
      · rename_i ps n hp
        cases h
        cases hv with
        | tup hl h =>
          obtain ⟨e, hr⟩ := pubL_rep ih _ _ _ hp hm
          refine .tup (by rw [hl, e]) fun j x q hx hq => ?_
          have hj : j < cs.length := by rw [e]; exact (List.getElem?_eq_some_iff.1 hq).1
          exact hr j _ q x (List.getElem?_eq_getElem hj) hq (h j x _ hx (List.getElem?_eq_getElem hj))
      · cases h
    | func fn a b =>
      simp only [pub] at h
      split at h
      · rename_i ps n hp
        split at h
        · rename_i qs n' hq
          cases h
          cases hv with
          | func hl hl' h1 h2 =>
            obtain ⟨e, hr⟩ := pubL_rep ih _ _ _ hp fun b hb => hm b (List.mem_append_left _ hb)
            obtain ⟨e', hr'⟩ := pubL_rep ih _ _ _ hq fun b hb => hm b (List.mem_append_right _ hb)
            refine .func (by rw [hl, e]) (by rw [hl', e']) (fun j x q hx hq => ?_) (fun j x q hx hq => ?_)
            · have hj : j < a.length := by rw [e]; exact (List.getElem?_eq_some_iff.1 hq).1
              exact hr j _ q x (List.getElem?_eq_getElem hj) hq (h1 j x _ hx (List.getElem?_eq_getElem hj))
            · have hj : j < b.length := by rw [e']; exact (List.getElem?_eq_some_iff.1 hq).1
              exact hr' j _ q x (List.getElem?_eq_getElem hj) hq (h2 j x _ hx (List.getElem?_eq_getElem hj))
        · cases h
      · cases h
    | own b i n =>
      simp only [pub] at h
      split at h
      · rename_i es rows s hf
        cases h
        cases hv with
        | own hD h1 hv =>
          have hov := hv _ hf
          have hin : i + n ≤ rows.length := by obtain ⟨_, _, _, h, _⟩ := hov; exact h
          refine own_pub (o := .arr es rows s) hs (hm b (by simp)) hf rfl hov (by simp; omega) fun k hk => ?_
          have hk' : i + k < rows.length := by omega
          refine ⟨(rows[i + k]).map .pv, rows[i + k], by simp [SObj.row?, hk'], by simp [List.getElem?_take_of_lt hk, hk'], by simp, fun j a q x ha hq hx => ?_⟩
          rw [List.getElem?_map, hq] at ha
          simp at ha; subst ha
          exact pure hx
      · rename_i es rows s hf
        split at h
        · rename_i ps m' hp
          cases h
          cases hv with
          | own hD h1 hv =>
            have hov := hv _ hf
            have hin : i + n ≤ rows.length := by obtain ⟨_, _, _, h, _⟩ := hov; exact h
            obtain ⟨e, hr⟩ := pubR_rep ih _ _ _ hp fun b' hb => hm b' (List.mem_cons_of_mem _ hb)
            have hlen : ps.length = n := by rw [← e]; simp; omega
            refine own_pub (o := .box es rows s) hs (hm b (by simp)) hf rfl hov hlen fun k hk => ?_
            have hk' : i + k < rows.length := by omega
            have hpk : k < ps.length := by omega
            obtain ⟨g1, g2⟩ := hr k rows[i + k] ps[k] (by simp [List.getElem?_take_of_lt hk, hk']) (List.getElem?_eq_getElem hpk)
            exact ⟨rows[i + k], ps[k], by simp [SObj.row?, hk'], List.getElem?_eq_getElem hpk, g1, g2⟩
        · cases h
      · cases h
    | ptr b i j =>
      simp only [pub] at h
      split at h
      · rename_i o hf
        split at h
        · rename_i row hrow
          split at h
          · rename_i ps m' hp
            cases h
            cases hv with
            | ptr hD h1 hv =>
              obtain ⟨r, hr, rfl⟩ := hv o hf
              obtain ⟨e, hr'⟩ := pubL_rep ih _ _ _ hp fun b' hb => hm b' (List.mem_cons_of_mem _ hb)
              obtain ⟨r', c, T, fz, k1, k2, k3, k4, k5, k6⟩ := row_cells hs hf hrow
              rw [hr] at k1; cases k1
              have hmap : o.isMap = false := by cases o <;> simp_all [SObj.row?, SObj.isMap]
              have hi : i < o.len := by
                cases o with
                | map ents => simp [SObj.row?] at hrow
                | arr e rs s => simp only [SObj.row?] at hrow; split at hrow <;> cases hrow; rename_i h; exact (List.getElem?_eq_some_iff.1 h).1
                | box e rs s => exact (List.getElem?_eq_some_iff.1 hrow).1
              have cell : ∀ k, k < ps.length → ∃ a x, (row.drop j)[k]? = some a ∧ c[i * o.es + (j + k)]? = some x ∧ RepC w I ι σ D x a := by
                intro k hk
                have hk' : k < (row.drop j).length := by rw [e]; exact hk
                have ha := List.getElem?_eq_getElem hk'
                have ha' := ha
                rw [List.getElem?_drop] at ha'
                obtain ⟨x, hx, hrep⟩ := k6 (j + k) _ ha'
                exact ⟨_, x, ha, hx, hrep⟩
              refine .ref (fun k => (c[i * o.es + j + k]?).getD default) rfl (fun k hk => ?_) (fun k q hq => ?_)
              · obtain ⟨a, x, ha, hx, hrep⟩ := cell k hk
                have e2 : i * o.es + j + k = i * o.es + (j + k) := by omega
                refine ⟨?_, ?_, ?_⟩
                · rw [cell_of k2, e2, hx]; rfl
                · refine .inr ⟨b, o, hm b (by simp), hf, hmap, hr, ?_⟩
                  have hjk : j + k < o.es := by
                    rw [← k5]
                    have := (List.getElem?_eq_some_iff.1 ha).1
                    simp at this; omega
                  show i * o.es + j + k < _
                  calc i * o.es + j + k < i * o.es + o.es := by omega
                    _ = (i + 1) * o.es := by rw [Nat.add_mul, Nat.one_mul]
                    _ ≤ o.len * o.es := Nat.mul_le_mul_right _ hi
                · rw [e2, hx]; exact hrep.1
              · obtain ⟨a, x, ha, hx, hrep⟩ := cell k (List.getElem?_eq_some_iff.1 hq).1
                have e2 : i * o.es + j + k = i * o.es + (j + k) := by omega
                rw [e2, hx]
                exact hr' k a q x ha hq hrep.2
          · cases h
        · cases h
      · cases h
    | mref b => simp only [pub] at h; cases h
    | anyB => simp only [pub] at h; cases h
    | yld b => simp only [pub] at h; cases h
    | mark k => simp only [pub] at h; cases h
    | undef => simp only [pub] at h; cases h
end
end Go.Ab

/- The relation between an abstract state and a real one; contracts; one operation in the calculus. Under: nothing. -/
namespace Go.Ab
open Go.RowKit

/-- The fence of everything, in whatever round. -/
abbrev Fw (ro : Option Nat) : Fence := { Fence.wide with round := ro }

/-- What a function said outright comes to. -/
def PrimPost (B : Nat) (w0 : World) (I0 : Imm) (gs : Value → AV → Prop) (σ' : Store) (D : Nat → Prop) (w : World) (av : AV) : Ending → World → Prop
  | .returned v, w' => ∃ I' ι', Core B w0 I0 w' I' ι' σ' D ∧ RepA w' I' ι' σ' D v av ∧ (∀ x a, gs x a → RepA w' I' ι' σ' D x a) ∧ ∀ (r : Nat) (o : Obj), still o = true → w.heap[r]? = some o → w'.heap[r]? = some o
  | _, _ => False

/-- The function is the model's. -/
def PrimOk1 (P : Program) (g : Nat) (p : PrimF) : Prop :=
  ∀ (args : List AV) (σ : Store) (v : AV) (c es : Nat) (rows : List (List PV)), p.run args σ = some (v, c, es, rows) →
    ∀ (B : Nat) (w0 : World) (I0 : Imm) (gs : Value → AV → Prop) (w : World) (I : Imm) (ι : Nat → Option Nat) (D : Nat → Prop) (vs : Array Value), Core B w0 I0 w I ι σ D → (∃ m, ∀ b, D b → b < m) →
      vs.size = args.length → (∀ (j : Nat) (x : Value) (q : AV), vs[j]? = some x → args[j]? = some q → RepA w I ι σ D x q) → (∀ x a, gs x a → RepA w I ι σ D x a) →
      (∀ w₁, (callFunc g vs).run P w₁ = .ok (.enter g vs) w₁) ∧ CallsIn Fence.wide 0 P g vs w (PrimPost B w0 I0 gs (upAll σ [(c, some (.arr es rows false))]) D w v)

/-- The package's variables hold what they are said to hold; the functions said outright are the model's. -/
structure GlobOk (P : Program) (G : Gl) (w : World) (I : Imm) : Prop where
  glob : ∀ i cs, G i = some cs → RepP w I (.pointer (some ⟨i, 0, none⟩)) (.ref cs)
  prim : ∀ g p, G.prim g = some p → PrimOk1 P g p

/-- The names that one operation may give. -/
def Names (nm : Nat) : Nat → Prop := fun b => nm ≤ b ∧ b < nm + stride

/-- What a call hands back. -/
def ResOk (B : Nat) (w' : World) (I' : Imm) (own : Own) (v : Value) (r : PV) : Prop :=
  ∀ nm, ∃ ι₁, SimS B w' I' ι₁ (upAll [] (imp own nm r).2) (Names nm) ∧ RepA w' I' ι₁ (upAll [] (imp own nm r).2) (Names nm) v (imp own nm r).1

def ArgsOk (w : World) (I : Imm) (vs : Array Value) (ps : List PV) : Prop := vs.size = ps.length ∧ ∀ (j : Nat) (x : Value) (q : PV), vs[j]? = some x → ps[j]? = some q → RepP w I x q

def CallPost (w : World) (I : Imm) (own : Own) (r : PV) : Ending → World → Prop
  | .returned v, w' => ∃ I', Below w.heap.size w w' ∧ (∀ a k, I a k → I' a k) ∧ (∀ a k, a < w.heap.size → I' a k → I a k) ∧ ResOk w.heap.size w' I' own v r
  | _, _ => False

/-- A function's contract, in every world. -/
def OkC (P : Program) (G : Gl) (g : Nat) (ps : List PV) (own : Own) (r : PV) : Prop :=
  ∀ (w : World) (I : Imm) (vs : Array Value), (∀ a k, I a k → a < w.heap.size) → GlobOk P G w I → ArgsOk w I vs ps →
    (∀ w₁, (callFunc g vs).run P w₁ = .ok (.enter g vs) w₁) ∧ CallsIn Fence.wide 0 P g vs w (CallPost w I own r)

/-- The deferred calls of a frame are marks of loops, each with its block. -/
def Marks (B : Nat) (keep : Nat → Obj → Prop) (w : World) (ds : List Deferred) : Prop := ∃ rs : List Nat, ds.map (·.target) = rs.map Target.collected ∧ rs.Nodup ∧ ∀ r ∈ rs, B ≤ r ∧ (∀ o, ¬ keep r o) ∧ w.heap[r]? = some (.deferred (some []))

/-- A loop over a function that is under way: its name, its record. -/
structure LoopAt where
  b : Nat
  l : Nat
  data : Loop

/-- The record where no jump (0) or that jump is pending. -/
def LoopAt.at (p : LoopAt) : Nat → Loop
  | 0 => { p.data with state := .ready, pending := none }
  | 1 => { p.data with state := .done, pending := some .ret }
  | i + 2 => { p.data with state := .done, pending := some (.exit i) }

/-- What rides along: values that must stay what they stand for; the names that were there before; blocks that must stay; the loop whose iterator this is. -/
structure Gh where
  gs : Value → AV → Prop
  D0 : Nat → Prop
  n0 : Nat
  keep : Nat → Obj → Prop
  lp : Option LoopAt

def Gh.top : Gh := ⟨fun _ _ => False, fun _ => True, 0, fun _ _ => False, none⟩

structure SimX (P : Program) (G : Gl) (B : Nat) (w0 : World) (I0 : Imm) (gh : Gh) (N : Nat → Prop) (s : St) (a : Act) (w : World) (I : Imm) (ι : Nat → Option Nat) (D : Nat → Prop) : Prop where
  core : Core B w0 I0 w I ι s.σ D
  names : ∀ b, D b → N b
  dfs : Marks B gh.keep w a.defers
  size : a.tmps.size = s.nt
  glob : GlobOk P G w I
  tm : ∀ t, t < 1024 → RepA w I ι s.σ D (a.tmps.getD t undef) (s.tm.get tdepth t)
  ghost : ∀ v av, gh.gs v av → RepA w I ι s.σ D v av
  base : ∀ b, D b → gh.D0 b ∨ gh.n0 ≤ b
  kept : ∀ r o, gh.keep r o → still o = true ∧ w.heap[r]? = some o
  loop : ∀ p, gh.lp = some p → s.nt ≤ 1023 ∧ B ≤ p.l ∧ ∃ k, s.tm.get tdepth markT = .mark k ∧ w.heap[p.l]? = some (.loop (p.at k))

def Sim (P : Program) (G : Gl) (B : Nat) (w0 : World) (I0 : Imm) (gh : Gh) (N : Nat → Prop) (s : St) (a : Act) (w : World) : Prop :=
  ∃ I ι D, SimX P G B w0 I0 gh N s a w I ι D

section
variable {P : Program} {G : Gl} {B : Nat} {w0 : World} {I0 : Imm} {gh : Gh} {N : Nat → Prop} {s : St} {a : Act} {w w' : World} {I I' : Imm} {ι ι' : Nat → Option Nat} {D D' : Nat → Prop}

theorem GlobOk.mono (h : GlobOk P G w I) (hk : Keeps w I w' I') : GlobOk P G w' I' := ⟨fun i cs hi => (h.glob i cs hi).mono hk, h.prim⟩

theorem SimX.eval (h : SimX P G B w0 I0 gh N s a w I ι D) {o : Operand} {r : RA} (hk : chkA o r = true) : RepA w I ι s.σ D (a.eval o) (s.ev G r) := by
  unfold chkA at hk
  split at hk
  · simp at hk
    obtain ⟨rfl, hlt⟩ := hk
    exact h.tm _ hlt
  · exact chkV_rep hk
  · simp at hk; subst hk
    exact .func rfl rfl (fun j x q _ hq => by simp at hq) (fun j x q _ hq => by simp at hq)
  · simp at hk; subst hk
    simp only [St.ev, Act.eval]
    split
    · rename_i cs hcs; exact .pv (h.glob.glob _ _ hcs)
    · exact .undef _
  · cases hk

theorem Marks.mono {m : Nat} {kp : Nat → Obj → Prop} {ds : List Deferred} {σ σ' : Store} (h : Marks m kp w ds) (hL : Later w I ι σ D w' I' ι' σ' D') : Marks m kp w' ds :=
  let ⟨rs, h1, h2, h3⟩ := h; ⟨rs, h1, h2, fun r hr => ⟨(h3 r hr).1, (h3 r hr).2.1, hL.loops r _ rfl (h3 r hr).2.2⟩⟩

theorem SimX.put (h : SimX P G B w0 I0 gh N s a w I ι D) {dst : Option Nat} {av : AV} {v : Value} {σ' : Store} {N' : Nat → Prop} (hd : ∀ d, dst = some d → d < s.nt ∧ d < 1024)
    (hc : Core B w0 I0 w' I' ι' σ' D') (hL : Later w I ι s.σ D w' I' ι' σ' D') (hv : RepA w' I' ι' σ' D' v av) (hN : ∀ b, D' b → N' b) (hb : ∀ b, D' b → D b ∨ gh.n0 ≤ b) :
    SimX P G B w0 I0 gh N' (putW s dst av σ') (a.put dst v) w' I' ι' D' := by
  have hσ : (putW s dst av σ').σ = σ' := putW_σ
  refine ⟨by rw [hσ]; exact hc, hN, ?_, ?_, h.glob.mono hL.keeps, fun t ht => ?_, fun v av hg => by rw [hσ]; exact (h.ghost v av hg).mono hL, fun b hD => (hb b hD).elim (h.base b) .inr, fun r o hk => ⟨(h.kept r o hk).1, hL.loops r o (h.kept r o hk).1 (h.kept r o hk).2⟩, fun p hp => ?_⟩
  · cases dst <;> exact h.dfs.mono hL
  · cases dst with
    | none => exact h.size
    | some d => simp only [Act.put, putW, Array.size_setIfInBounds]; exact h.size
  · rw [hσ, get_put ht fun d e => (hd d e).2]
    cases dst with
    | none => simp only [Act.put, reduceCtorEq, if_false]; exact (h.tm t ht).mono hL
    | some d =>
      have hds : d < a.tmps.size := by rw [h.size]; exact (hd d rfl).1
      simp only [Act.put, Option.some.injEq]
      by_cases e : d = t
      · subst e; rw [if_pos rfl]
        have : (a.tmps.setIfInBounds d v).getD d undef = v := by simp [Array.getD, hds]
        rw [this]; exact hv
      · rw [if_neg e]
        have : (a.tmps.setIfInBounds d v).getD t undef = a.tmps.getD t undef := by
          simp only [Array.getD_eq_getD_getElem?]
          rw [Array.getElem?_setIfInBounds_ne e]
        rw [this]; exact (h.tm t ht).mono hL
  · obtain ⟨h1, h2, k, h3, h4⟩ := h.loop p hp
    refine ⟨by rw [putW_nt]; exact h1, h2, k, ?_, hL.loops _ _ rfl h4⟩
    rw [get_put (by decide) fun d e => (hd d e).2, if_neg (fun e => by have := (hd _ e).1; simp only [markT] at this; omega)]
    exact h3

theorem SimX.eqv (h : SimX P G B w0 I0 gh N s a w I ι D) {s' : St} (he : StEq s s') : SimX P G B w0 I0 gh N s' a w I ι D := by
  have hL : Later w I ι s.σ D w I ι s'.σ D := ⟨⟨fun _ _ _ hi hx => ⟨hx, hi⟩, fun _ h => h, fun b o' _ ho => by rw [he.σ] at ho; exact ⟨o', ho, rfl, rfl, rfl⟩, fun _ c _ fz h => ⟨c, fz, h, rfl⟩, fun _ _ => rfl⟩, fun _ _ _ h => h⟩
  obtain ⟨hs, b1, b2, b3, b4⟩ := h.core
  refine ⟨⟨⟨hs.bnd, fun b o h' => hs.dom b o (by rw [← he.σ]; exact h'), fun b b' o o' r h₁ h₂ => hs.inj b b' o o' r (by rw [← he.σ]; exact h₁) (by rw [← he.σ]; exact h₂),
    fun b o r h' => hs.ge b o r (by rw [← he.σ]; exact h'), fun b o r k h' => hs.sep b o r k (by rw [← he.σ]; exact h'),
    fun b o h' => (hs.obj b o (by rw [← he.σ]; exact h')).mono hL rfl fun _ _ => rfl⟩, b1, b2, b3, b4⟩, h.names, h.dfs, h.size.trans he.nt.symm, h.glob, fun t ht => ?_, fun v av hg => (h.ghost v av hg).mono hL, h.base, h.kept, fun p hp => let ⟨h1, h2, k, h3, h4⟩ := h.loop p hp; ⟨by rw [he.nt]; exact h1, h2, k, by rw [he.tm]; exact h3, h4⟩⟩
  rw [he.tm]; exact (h.tm t ht).mono hL

theorem Sim.eqv (h : Sim P G B w0 I0 gh N s a w) {s' : St} (he : StEq s s') : Sim P G B w0 I0 gh N s' a w := let ⟨I, ι, D, h⟩ := h; ⟨I, ι, D, h.eqv he⟩

theorem Sim.weaken (h : Sim P G B w0 I0 gh N s a w) {N' : Nat → Prop} (hn : ∀ b, N b → N' b) : Sim P G B w0 I0 gh N' s a w :=
  let ⟨I, ι, D, h⟩ := h; ⟨I, ι, D, h.core, fun b hb => hn b (h.names b hb), h.dfs, h.size, h.glob, h.tm, h.ghost, h.base, h.kept, h.loop⟩

/-- The count of draws goes up. -/
theorem Sim.drew (h : Sim P G B w0 I0 gh N s a w) : Sim P G B w0 I0 gh N s a { w with drawn := w.drawn + 1 } := by
  obtain ⟨I, ι, D, h⟩ := h
  have hL : Later w I ι s.σ D { w with drawn := w.drawn + 1 } I ι s.σ D := later_heap rfl
  obtain ⟨hs, b1, b2, b3, b4⟩ := h.core
  exact ⟨I, ι, D, ⟨hs.heap rfl, b1.drew, b2, b3, b4⟩, h.names, h.dfs, h.size, h.glob.mono hL.keeps, fun t ht => (h.tm t ht).mono hL, fun v av hg => (h.ghost v av hg).mono hL, h.base, h.kept, h.loop⟩

/-- Records of loops and blocks of deferred calls are laid, or turn. -/
theorem Core.move {σ : Store} (hc : Core B w0 I0 w I ι σ D) (hobj : ∀ (r : Nat) (o : Obj), w.heap[r]? = some o → still o = false → w'.heap[r]? = some o) (hsz : w.heap.size ≤ w'.heap.size) (hb : Below B w w') (hι : ∀ b, D b → ι' b = ι b) (hD : ∀ b, D b → D' b) :
    Core B w0 I0 w' I ι' σ D' ∧ Later0 w I ι σ D w' I ι' σ D' := by
  have hL : Later0 w I ι σ D w' I ι' σ D' := by
    refine ⟨fun r' k v hi hx => ⟨?_, hi⟩, hD, fun b o₁ hb h => ⟨o₁, h, rfl, rfl, hι b hb⟩, fun r₁ c T fz h₁ => ⟨c, fz, hobj _ _ h₁ rfl, rfl⟩, hι⟩
    cases hr : w.heap[r']? with
    | none => simp [World.cell?, hr] at hx
    | some o =>
      cases hs : still o with
      | false => exact (cell?_of_heap ((hobj r' o hr hs).trans hr.symm)).trans hx
      | true => cases o <;> simp [World.cell?, hr, still] at hx hs
  refine ⟨?_, hL⟩
  obtain ⟨hs, b1, b2, b3, b4⟩ := hc
  refine ⟨⟨fun r' k hi => Nat.lt_of_lt_of_le (hs.bnd r' k hi) hsz, fun b o h => hD b (hs.dom b o h), fun b b' o o' r h₁ h₂ e₁ e₂ => hs.inj b b' o o' r h₁ h₂ (by rw [← hι b (hs.dom b o h₁)]; exact e₁) (by rw [← hι b' (hs.dom b' o' h₂)]; exact e₂),
    fun b o r h e => hs.ge b o r h (by rw [← hι b (hs.dom b o h)]; exact e), fun b o r k h e hi => hs.sep b o r k h (by rw [← hι b (hs.dom b o h)]; exact e) hi, fun b o hf => ?_⟩, b1.trans hb, b2, b3, b4⟩
  have hob := hs.obj b o hf
  have hib := hι b (hs.dom b o hf)
  have rows : RowsRep w I ι σ D b o → RowsRep w' I ι' σ D' b o := by
    rintro (⟨h1, h2⟩ | ⟨r', c, T, fz, h1, h2, h3, h4, h5⟩)
    · exact .inl ⟨hib.trans h1, h2⟩
    · refine .inr ⟨r', c, T, fz, hib.trans h1, hobj _ _ h2 rfl, h3, h4, fun i row hrow => ⟨(h5 i row hrow).1, fun j v hv => ?_⟩⟩
      obtain ⟨x, hx, hrep⟩ := (h5 i row hrow).2 j v hv
      exact ⟨x, hx, hrep.1, hrep.2.mono0 hL⟩
  cases o with
  | arr e rs sl => exact rows hob
  | box e rs sl => exact rows hob
  | map ents =>
    obtain ⟨r', es, clock, h1, h2, h3, h4⟩ := hob
    exact ⟨r', es, clock, hib.trans h1, hobj _ _ h2 rfl, fun e he => let ⟨k, v, a, b, c⟩ := h3 e he; ⟨k, v, a, b, c.mono0 hL⟩, h4⟩

/-- What a call hands back, taken over. -/
theorem Core.take {σ : Store} {own : Own} {r : PV} {v : Value} {nm : Nat} (hc : Core B w0 I0 w I ι σ D) (hn : ∀ b, D b → ¬ Names nm b) (hb : Below w.heap.size w w') (h1 : ∀ a k, I a k → I' a k)
    (h2 : ∀ a k, a < w.heap.size → I' a k → I a k) (hr : ResOk w.heap.size w' I' own v r) :
    ∃ ι', Core B w0 I0 w' I' ι' (upAll σ (imp own nm r).2) (fun b => D b ∨ Names nm b) ∧ Later w I ι σ D w' I' ι' (upAll σ (imp own nm r).2) (fun b => D b ∨ Names nm b) ∧
      RepA w' I' ι' (upAll σ (imp own nm r).2) (fun b => D b ∨ Names nm b) v (imp own nm r).1 := by
  obtain ⟨ι₁, hs₁, hrep⟩ := hr nm
  obtain ⟨hs, hbl, hB, hext, hold⟩ := hc
  generalize (imp own nm r).2 = up at hs₁ hrep ⊢
  generalize (imp own nm r).1 = av at hrep ⊢
  have hBw : B ≤ w.heap.size := Nat.le_trans hB hbl.size
  classical
  let ι' : Nat → Option Nat := fun b => if Names nm b then ι₁ b else ι b
  have hnew : ∀ b, Names nm b → ι' b = ι₁ b := fun b h => if_pos h
  have hkeep : ∀ b, D b → ι' b = ι b := fun b h => if_neg (hn b h)
  have hf : ∀ b o, find (upAll σ up) b = some o → (Names nm b ∧ find (upAll [] up) b = some o) ∨ (D b ∧ find σ b = some o) := by
    intro b o h
    rw [find_upAll] at h
    cases hu : upF up b with
    | some x =>
      rw [hu] at h
      simp only at h; subst h
      have : find (upAll [] up) b = some o := by rw [find_upAll, hu]
      exact .inl ⟨hs₁.dom b o this, this⟩
    | none =>
      rw [hu] at h
      exact .inr ⟨hs.dom b o h, h⟩
  have hheap : ∀ k, k < w.heap.size → w'.heap[k]? = w.heap[k]? := hb.block
  have hL : Later w I ι σ D w' I' ι' (upAll σ up) (fun b => D b ∨ Names nm b) := by
    refine ⟨⟨fun r' k x hi hx => ⟨(cell?_of_heap (hheap r' (hs.bnd r' k hi))).trans hx, h1 r' k hi⟩, fun b h => .inl h, fun b o' hD ho => ?_, fun r' c T fz hr' => ⟨c, fz, ?_, rfl⟩, hkeep⟩, fun r' _ _ hr' => by rw [hheap r' (Array.getElem?_eq_some_iff.1 hr').1]; exact hr'⟩
    · rcases hf b o' ho with ⟨h, _⟩ | ⟨_, h⟩
      · exact absurd h (hn b hD)
      · exact ⟨o', h, rfl, rfl, hkeep b hD⟩
    · rw [hheap r' (Array.getElem?_eq_some_iff.1 hr').1]; exact hr'
  have hL₁ : Later w' I' ι₁ (upAll [] up) (Names nm) w' I' ι' (upAll σ up) (fun b => D b ∨ Names nm b) := by
    refine ⟨⟨fun r' k x hi hx => ⟨hx, hi⟩, fun b h => .inr h, fun b o' hD ho => ?_, fun r' c T fz hr' => ⟨c, fz, hr', rfl⟩, hnew⟩, fun _ _ _ h => h⟩
    rcases hf b o' ho with ⟨_, h⟩ | ⟨h, _⟩
    · exact ⟨o', h, rfl, rfl, hnew b hD⟩
    · exact absurd hD (hn b h)
  refine ⟨ι', ⟨⟨fun r' k hi => hs₁.bnd r' k hi, fun b o ho => ?_, fun b b' o o' r' ho ho' e e' => ?_, fun b o r' ho e => ?_, fun b o r' k ho e hi => ?_, fun b o ho => ?_⟩, hbl.trans (hb.mono hBw), hB,
    fun r' k hi => h1 r' k (hext r' k hi), fun r' k hlt hi => hold r' k hlt (h2 r' k (by omega) hi)⟩, hL, hrep.mono hL₁⟩
  · rcases hf b o ho with ⟨h, _⟩ | ⟨h, _⟩
    · exact .inr h
    · exact .inl h
  · rcases hf b o ho with ⟨n1, f1⟩ | ⟨n1, f1⟩ <;> rcases hf b' o' ho' with ⟨n2, f2⟩ | ⟨n2, f2⟩
    · rw [hnew b n1] at e; rw [hnew b' n2] at e'; exact hs₁.inj b b' o o' r' f1 f2 e e'
    · rw [hnew b n1] at e; rw [hkeep b' n2] at e'
      have := hs₁.ge b o r' f1 e
      have := hs.lt f2 e'; omega
    · rw [hkeep b n1] at e; rw [hnew b' n2] at e'
      have := hs₁.ge b' o' r' f2 e'
      have := hs.lt f1 e; omega
    · rw [hkeep b n1] at e; rw [hkeep b' n2] at e'; exact hs.inj b b' o o' r' f1 f2 e e'
  · rcases hf b o ho with ⟨n1, f1⟩ | ⟨n1, f1⟩
    · rw [hnew b n1] at e; have := hs₁.ge b o r' f1 e; omega
    · rw [hkeep b n1] at e; exact hs.ge b o r' f1 e
  · rcases hf b o ho with ⟨n1, f1⟩ | ⟨n1, f1⟩
    · rw [hnew b n1] at e; exact hs₁.sep b o r' k f1 e hi
    · rw [hkeep b n1] at e; exact hs.sep b o r' k f1 e (h2 r' k (hs.lt f1 e) hi)
  · rcases hf b o ho with ⟨n1, f1⟩ | ⟨n1, f1⟩
    · exact (hs₁.obj b o f1).mono hL₁ (hnew b n1) fun _ _ => rfl
    · exact (hs.obj b o f1).mono hL (hkeep b n1) fun r' hr' => hheap r' (hs.lt f1 hr')
end
end Go.Ab

/- One operation in the calculus. Under: nothing. -/
namespace Go.Ab
open Go.RowKit

def chkCall (o : Op) (r : ROp) : Bool :=
  match o, r with
  | .call c, .call f args => (match c.callee with | .value x => chkA x f && chkAs c.args.toList args | _ => false)
  | _, _ => false

def chkGuard (ops : Array Oper) (nt : Nat) (g : Option (Nat × Bool)) (h : Option (Nat × Bool)) : Bool :=
  match g, h with
  | none, none => true
  | some (j, want), some (t, want') => want == want' && decide (t < nt) && (match ops[j]? with | some o => o.dst == some t | none => false)
  | _, _ => false

def chkIns (P : Program) (ops : Array Oper) (nt : Nat) (o : Oper) (r : RIns) : Bool :=
  o.dst == r.dst && (match r.dst with | some d => decide (d < nt) | none => true) && smallT r && chkGuard ops nt o.guard r.guard && (chkOp P o.op r.op || chkCall o.op r.op)

theorem chkBuiltin_noCall {P : Program} {b : Builtin} {ts : List TypeId} {xs : List Operand} {f : RA} {a : List RA} : chkBuiltin P b ts xs (.call f a) = false := by
  unfold chkBuiltin
  split <;> first | rfl | (rename_i he; cases he)

theorem chkOp_noCall {P : Program} {o : Op} {f : RA} {a : List RA} : chkOp P o (.call f a) = false := by
  cases o <;> simp only [chkOp]
  split
  · exact chkBuiltin_noCall
  · rfl

theorem chkOp_noDefer {P : Program} {o : Op} {r : ROp} (h : chkOp P o r = true) : ∀ c, o ≠ .defer c := by
  intro c e
  subst e
  simp [chkOp] at h

section
variable {P : Program} {G : Gl} {B : Nat} {w0 : World} {I0 : Imm} {gh : Gh} {N : Nat → Prop} {s : St} {a : Act} {w w' : World}
variable {ops : Array Oper} {i : Nat} {o : Oper} {r : RIns} {nm n : Nat} {d : Dat} {ro : Option Nat} {Q : Exit → Act → World → Prop} {K : Act → World → Prop}

theorem chkIns_spec (hk : chkIns P ops s.nt o r = true) : o.dst = r.dst ∧ (∀ d, r.dst = some d → d < s.nt ∧ d < 1024) ∧ smallT r = true ∧ chkGuard ops s.nt o.guard r.guard = true ∧ (chkOp P o.op r.op = true ∨ chkCall o.op r.op = true) := by
  simp only [chkIns, Bool.and_eq_true, beq_iff_eq, Bool.or_eq_true] at hk
  obtain ⟨⟨⟨⟨h1, h2⟩, h3⟩, h4⟩, h5⟩ := hk
  refine ⟨h1, fun d hd => ⟨?_, (smallT_spec h3).2 d hd⟩, h3, h4, h5⟩
  rw [hd] at h2; simpa using h2

/-- The guard as the model sees it. -/
theorem wanted_of (h : Sim P G B w0 I0 gh N s a w) (hg : chkGuard ops s.nt o.guard r.guard = true) (hs : smallT r = true) {b : Bool}
    (hv : ∀ t want, r.guard = some (t, want) → s.ev G (.t t) = .pv (.bool (if b then want else !want))) (hno : b = false → r.guard ≠ none) : Region.wanted o (yielded ops a.tmps) = b := by
  obtain ⟨I, ι, D, h⟩ := h
  unfold chkGuard at hg
  split at hg
  · rename_i h1 h2
    cases b
    · exact absurd h2 (hno rfl)
    · simp [Region.wanted, h1]
  · rename_i j want t want' h1 h2
    simp only [Bool.and_eq_true, beq_iff_eq, decide_eq_true_eq] at hg
    obtain ⟨⟨rfl, hlt⟩, hj⟩ := hg
    split at hj
    · rename_i oj hoj
      have ht : t < 1024 := (smallT_spec hs).1 t (List.mem_append_right _ (by rw [h2]; simp))
      have hrep := h.tm t ht
      have := hv t want h2
      simp only [St.ev] at this
      rw [this] at hrep
      have hb := inv_bool hrep
      have hts : t < a.tmps.size := by rw [h.size]; exact hlt
      have hget : a.tmps[t]? = some (.bool (if b then want else !want)) := by
        rw [← hb]; simp [Array.getD, hts]
      have hd : oj.dst = some t := by simpa using hj
      have : yielded ops a.tmps j = some (if b then want else !want) := by
        simp [yielded, hoj, hd, hget]
      simp only [Region.wanted, h1, this]
      cases b <;> cases want <;> rfl
    · cases hj
  · cases hg

/-- A guard that was left out itself. -/
theorem wanted_undef (h : Sim P G B w0 I0 gh N s a w) (hg : chkGuard ops s.nt o.guard r.guard = true) (hs : smallT r = true) {t : Nat} {want : Bool} (hgd : r.guard = some (t, want)) (hv : s.ev G (.t t) = .tup []) : Region.wanted o (yielded ops a.tmps) = false := by
  obtain ⟨I, ι, D, h⟩ := h
  unfold chkGuard at hg
  split at hg
  · rename_i h1 h2; rw [h2] at hgd; cases hgd
  · rename_i j want' t' want'' h1 h2
    rw [h2] at hgd
    cases hgd
    simp only [Bool.and_eq_true, beq_iff_eq, decide_eq_true_eq] at hg
    obtain ⟨⟨rfl, hlt⟩, hj⟩ := hg
    split at hj
    · rename_i oj hoj
      have ht : t < 1024 := (smallT_spec hs).1 t (List.mem_append_right _ (by rw [h2]; simp))
      have hrep := h.tm t ht
      simp only [St.ev] at hv
      rw [hv] at hrep
      have hts : t < a.tmps.size := by rw [h.size]; exact hlt
      have hget : a.tmps[t]? = some (a.tmps.getD t undef) := by simp [Array.getD, hts]
      generalize a.tmps.getD t undef = x at hrep hget
      cases hrep with
      | tup hl _ =>
        have hd : oj.dst = some t := by simpa using hj
        have : yielded ops a.tmps j = none := by simp [yielded, hoj, hd, hget]
        simp only [Region.wanted, h1, this]
        rfl
    · cases hj
  · cases hg

theorem callee_rep {I : Imm} {ι : Nat → Option Nat} {σ : Store} {D : Nat → Prop} {fv : AV} {xv : Value} {g : Nat} {fa fb : List AV} (hca : calleeOf fv = some (g, fa, fb)) (hfrep : RepA w I ι σ D xv fv) :
    ∃ xs ys : Array Value, xv = .func (.func g) xs ys ∧ xs.size = fa.length ∧ ys.size = fb.length ∧
      (∀ (j : Nat) (z : Value) (q : AV), xs[j]? = some z → fa[j]? = some q → RepA w I ι σ D z q) ∧ (∀ (j : Nat) (z : Value) (q : AV), ys[j]? = some z → fb[j]? = some q → RepA w I ι σ D z q) := by
  unfold calleeOf at hca
  split at hca
  · cases hca
    cases hfrep with
    | func hl hl' h1 h2 => exact ⟨_, _, rfl, hl, hl', h1, h2⟩
  · cases hca
    cases hfrep with
    | pv hfrep =>
      cases hfrep with
      | func hl hl' h1 h2 =>
        refine ⟨_, _, rfl, by simpa using hl, by simpa using hl', fun j z q hz hq => ?_, fun j z q hz hq => ?_⟩
        · rw [List.getElem?_map, Option.map_eq_some_iff] at hq
          obtain ⟨q', hq', rfl⟩ := hq
          exact .pv (h1 j z q' hz hq')
        · rw [List.getElem?_map, Option.map_eq_some_iff] at hq
          obtain ⟨q', hq', rfl⟩ := hq
          exact .pv (h2 j z q' hz hq')
  · cases hca

theorem what_wp (ho : ops[i]? = some o) (hk : chkIns P ops s.nt o r = true) (hw : WhatD G (OkC P G) r nm s d) (hsim : Sim P G B w0 I0 gh N s a w) (hN : ∀ b, N b → ¬ Names nm b) (hbd : ∃ m, ∀ b, N b → b < m) (hn0 : gh.n0 ≤ nm)
    (hK : ∀ a' w', Sim P G B w0 I0 gh (fun b => N b ∨ Names nm b) (afterD s r d) a' w' → K a' w') : wpOpIn (Fw ro) n P ops Q i K a w := by
  obtain ⟨hdst, hdlt, hsm, hg, hop⟩ := chkIns_spec hk
  have hN' : ∀ b, N b → N b ∨ Names nm b := fun b h => .inl h
  have opCase : ∀ e : Eff, (∀ t want, r.guard = some (t, want) → s.ev G (.t t) = .pv (.bool want)) → step s.σ nm (s.ev G) r.op = some e → afterD s r d = putW s r.dst e.v (upAll s.σ e.up) → wpOpIn (Fw ro) n P ops Q i K a w := by
    intro e hgd hst haf
    unfold wpOpIn
    simp only [ho]
    rw [haf] at hK
    rw [wanted_of (b := true) hsim hg hsm (fun t want e => by simpa using hgd t want e) (fun e => by cases e), if_pos rfl]
    have hop' : chkOp P o.op r.op = true := hop.resolve_right fun hcall => by
      unfold chkCall at hcall
      split at hcall
      · rename_i h2; rw [h2] at hst; simp [step] at hst
      · cases hcall
    refine ⟨fun _ _ => trivial, ?_⟩
    rw [Oper.semAt_eq _ _ _ (chkOp_noDefer hop')]
    obtain ⟨I, ι, D, hx⟩ := hsim
    have hnD : ¬ D nm := fun h => hN nm (hx.names nm h) ⟨Nat.le_refl _, by simp [stride]⟩
    obtain ⟨nx, v, w₁, hrun, hnx, I', ι', D', hc, hL, hrep, hD⟩ := step_sound (ρ := a.eval) hx.core hnD (fun o r => hx.eval) (fun _ => rfl) hop' hst
    rw [hrun]
    have hnext : K (a.put o.dst v) w₁ := by
      rw [hdst]
      exact hK _ _ ⟨I', ι', D', hx.put hdlt hc hL hrep (fun b hb => (hD b hb).elim (fun h => .inl (hx.names b h)) .inr) (fun b hb => (hD b hb).elim .inl fun h => .inr (Nat.le_trans hn0 h.1))⟩
    rcases hnx with rfl | ⟨rfl, rfl⟩
    · exact hnext
    · exact hnext
  unfold wpOpIn
  simp only [ho]
  obtain ⟨dv, drd, dsl, dup, dins⟩ := d
  simp only [WhatD] at hw
  cases hw with
  | op hni hgd hst => simpa only [wpOpIn, ho] using opCase _ hgd hst rfl
  | ins hgd hro hm hk' hf hl =>
    rename_i m k x b s' ents
    have := opCase { v := .undef, rd := [b], up := [(b, some (.map (insK s' (s.ev G x) ents)))] } hgd (by rw [hro]; simp only [step, hm, hk', hf, hl]) (by simp only [afterD, after, sealAll, upAll, insU, hf])
    simpa only [wpOpIn, ho] using this
  | call hgd hro hca hnp hp hok hi =>
    rename_i f args g fa fb ps own res
    rw [wanted_of (b := true) hsim hg hsm (fun t want e => by simpa using hgd t want e) (fun e => by cases e), if_pos rfl]
    have hcall : chkCall o.op r.op = true := hop.resolve_left fun h => by rw [hro, chkOp_noCall] at h; cases h
    obtain ⟨I, ι, D, hx⟩ := hsim
    rw [hro] at hcall
    unfold chkCall at hcall
    split at hcall
    · rename_i c f' args' hoc heq
      cases heq
      split at hcall
      · rename_i x hcv
        simp only [Bool.and_eq_true] at hcall
        obtain ⟨hcf, hcas⟩ := hcall
        have hfrep := hx.eval hcf
        obtain ⟨hal, har⟩ := chkAs_rep (ρ := a.eval) (fun o r h => hx.eval h) hcas
        -- the callee
        have hfun : ∃ xs ys : Array Value, a.eval x = .func (.func g) xs ys ∧ xs.size = fa.length ∧ ys.size = fb.length ∧
            (∀ (j : Nat) (z : Value) (q : AV), xs[j]? = some z → fa[j]? = some q → RepA w I ι s.σ D z q) ∧ (∀ (j : Nat) (z : Value) (q : AV), ys[j]? = some z → fb[j]? = some q → RepA w I ι s.σ D z q) := by
          generalize s.ev G f = fv at hca hfrep
          generalize a.eval x = xv at hfrep
          unfold calleeOf at hca
          split at hca
          · cases hca
            cases hfrep with
            | func hl hl' h1 h2 => exact ⟨_, _, rfl, hl, hl', h1, h2⟩
          · cases hca
            cases hfrep with
            | pv hfrep =>
              cases hfrep with
              | func hl hl' h1 h2 =>
                refine ⟨_, _, rfl, by simpa using hl, by simpa using hl', fun j z q hz hq => ?_, fun j z q hz hq => ?_⟩
                · rw [List.getElem?_map, Option.map_eq_some_iff] at hq
                  obtain ⟨q', hq', rfl⟩ := hq
                  exact .pv (h1 j z q' hz hq')
                · rw [List.getElem?_map, Option.map_eq_some_iff] at hq
                  obtain ⟨q', hq', rfl⟩ := hq
                  exact .pv (h2 j z q' hz hq')
          · cases hca
        obtain ⟨xs, ys, hxf, hxl, hyl, hxr, hyr⟩ := hfun
        obtain ⟨hs', hL'⟩ := SimS.sealO hx.core.sims dsl
        have hcore' : Core B w0 I0 w (sealI I ι s.σ dsl) ι (sealAll s.σ dsl) D := by
          obtain ⟨_, b1, b2, b3, b4⟩ := hx.core
          refine ⟨hs', b1, b2, fun r k h => .inl (b3 r k h), fun r k hlt h => ?_⟩
          rcases h with h | ⟨b, o, _, hf, _, hr, _⟩
          · exact b4 r k hlt h
          · have := hx.core.sims.ge b o r hf hr; omega
        have hcs : c.args.size = args.length := by simpa using hal
        -- all arguments
        have hargs : ArgsOk w (sealI I ι s.σ dsl) ((xs ++ c.args.map a.eval) ++ ys) ps := by
          obtain ⟨e1, e2⟩ := pubL_rep (pub_rep hx.core.sims 8) _ _ _ hp (fun b hb => hb)
          simp only [List.length_append, List.length_map] at e1
          refine ⟨by simp only [Array.size_append, Array.size_map]; rw [hxl, hyl, hcs]; exact e1, fun j z q hz hq => ?_⟩
          have hjlt : j < (fa ++ args.map (s.ev G) ++ fb).length := by
            simp only [List.length_append, List.length_map]; rw [e1]; exact (List.getElem?_eq_some_iff.1 hq).1
          refine e2 j _ q z (List.getElem?_eq_getElem hjlt) hq ?_
          have hav := List.getElem?_eq_getElem hjlt
          generalize (fa ++ args.map (s.ev G) ++ fb)[j] = av at hav
          by_cases h1 : j < fa.length
          · rw [List.getElem?_append_left (by simp; omega), List.getElem?_append_left h1] at hav
            rw [Array.getElem?_append_left (by simp; omega), Array.getElem?_append_left (by omega)] at hz
            exact hxr j z av hz hav
          · by_cases h2 : j < fa.length + args.length
            · rw [List.getElem?_append_left (by simp; omega), List.getElem?_append_right (by omega), List.getElem?_map, Option.map_eq_some_iff] at hav
              obtain ⟨q', hq', rfl⟩ := hav
              rw [Array.getElem?_append_left (by simp; omega), Array.getElem?_append_right (by omega), Array.getElem?_map, Option.map_eq_some_iff] at hz
              obtain ⟨z', hz', rfl⟩ := hz
              rw [hxl] at hz'
              exact har (j - fa.length) z' q' (by simpa using hz') hq'
            · rw [List.getElem?_append_right (by simp; omega)] at hav
              rw [Array.getElem?_append_right (by simp; omega)] at hz
              simp only [List.length_append, List.length_map, Array.size_append, Array.size_map] at hav hz
              rw [hxl] at hz
              rw [hcs] at hz
              exact hyr _ z av hz hav
        have hbnd : ∀ a k, sealI I ι s.σ dsl a k → a < w.heap.size := hs'.bnd
        obtain ⟨henter, hcalls⟩ := hok w (sealI I ι s.σ dsl) _ hbnd (hx.glob.mono hL'.keeps) hargs
        refine ⟨fun _ _ => trivial, ?_⟩
        have hnd : ∀ c', o.op ≠ .defer c' := by intro c' e; rw [e] at hoc; cases hoc
        rw [Oper.semAt_eq _ _ _ hnd]
        have hexec : (execOp a.eval o).run P w = .ok (.enter g ((xs ++ c.args.map a.eval) ++ ys)) w := by
          obtain ⟨dst, op, type, pos, aft, guard⟩ := o
          simp only at hoc
          subst hoc
          simp only [execOp, resolve, hcv, hxf, Deferred.ofValue, Sem.run_bind, Sem.run_pure, Result.andThen_ok, invoke]
          exact henter w
        rw [hexec]
        refine ⟨fun h => by simp [Fence.wide] at h, ?_⟩
        have hc' : CallsIn (Fw ro) 0 P g ((xs ++ c.args.map a.eval) ++ ys) w (CallPost w (sealI I ι s.σ dsl) own res) := hcalls
        refine CallsIn.mono (CallsIn.more hc' (Nat.zero_le _)) fun e w₁ he => ?_
        cases e with
        | returned v =>
          obtain ⟨I', hb, h1, h2, hres⟩ := he
          obtain ⟨ι', hc₁, hL₁, hrep⟩ := hcore'.take (nm := nm) (fun b hb' => hN b (hx.names b hb')) hb h1 h2 hres
          have hnext : K (a.put o.dst v) w₁ := by
            rw [hdst]
            refine hK _ _ ⟨I', ι', fun b => D b ∨ Names nm b, ?_⟩
            have hav : (imp own nm res) = (dv, dup) := hi
            rw [hav] at hc₁ hL₁ hrep
            exact hx.put hdlt hc₁ (hL'.trans hL₁) hrep (fun b hb' => hb'.elim (fun h => .inl (hx.names b h)) .inr) (fun b hb' => hb'.elim .inl fun h => .inr (Nat.le_trans hn0 h.1))
          exact hnext
        | panicked ch => exact he.elim
        | outgrown => exact he.elim
      · cases hcall
    · cases hcall
  | prim hgd hro hca hp hr =>
    rename_i f args g fa fb p c es rows
    rw [wanted_of (b := true) hsim hg hsm (fun t want e => by simpa using hgd t want e) (fun e => by cases e), if_pos rfl]
    have hcall : chkCall o.op r.op = true := hop.resolve_left fun h => by rw [hro, chkOp_noCall] at h; cases h
    obtain ⟨I, ι, D, hx⟩ := hsim
    rw [hro] at hcall
    unfold chkCall at hcall
    split at hcall
    · rename_i c' f' args' hoc heq
      cases heq
      split at hcall
      · rename_i x hcv
        simp only [Bool.and_eq_true] at hcall
        obtain ⟨hcf, hcas⟩ := hcall
        have hfrep := hx.eval hcf
        obtain ⟨hal, har⟩ := chkAs_rep (ρ := a.eval) (fun o r h => hx.eval h) hcas
        obtain ⟨xs, ys, hxf, hxl, hyl, hxr, hyr⟩ := callee_rep hca hfrep
        have hcs : c'.args.size = args.length := by simpa using hal
        obtain ⟨m, hm⟩ := hbd
        obtain ⟨henter, hcalls⟩ := hx.glob.prim g p hp _ _ _ _ _ _ hr B w0 I0 (fun v av => gh.gs v av ∨ (∃ t, t < 1024 ∧ v = a.tmps.getD t undef ∧ av = s.tm.get tdepth t) ∨ ∃ i cs, G i = some cs ∧ v = .pointer (some ⟨i, 0, none⟩) ∧ av = .pv (.ref cs))
          w I ι D ((xs ++ c'.args.map a.eval) ++ ys) hx.core ⟨m, fun b hb => hm b (hx.names b hb)⟩ (by simp [hxl, hyl, hcs]) (fun j z q hz hq => by
            by_cases h1 : j < fa.length
            · rw [List.getElem?_append_left (by simp; omega), List.getElem?_append_left h1] at hq
              rw [Array.getElem?_append_left (by simp; omega), Array.getElem?_append_left (by omega)] at hz
              exact hxr j z q hz hq
            · by_cases h2 : j < fa.length + args.length
              · rw [List.getElem?_append_left (by simp; omega), List.getElem?_append_right (by omega), List.getElem?_map, Option.map_eq_some_iff] at hq
                obtain ⟨q', hq', rfl⟩ := hq
                rw [Array.getElem?_append_left (by simp; omega), Array.getElem?_append_right (by omega), Array.getElem?_map, Option.map_eq_some_iff] at hz
                obtain ⟨z', hz', rfl⟩ := hz
                rw [hxl] at hz'
                exact har (j - fa.length) z' q' (by simpa using hz') hq'
              · rw [List.getElem?_append_right (by simp; omega)] at hq
                rw [Array.getElem?_append_right (by simp; omega)] at hz
                simp only [List.length_append, List.length_map, Array.size_append, Array.size_map] at hq hz
                rw [hxl, hcs] at hz
                exact hyr _ z q hz hq)
          (fun v av hv => by
            rcases hv with hv | ⟨t, ht, rfl, rfl⟩ | ⟨i, cs, hi, rfl, rfl⟩
            · exact hx.ghost v av hv
            · exact hx.tm t ht
            · exact .pv (hx.glob.glob i cs hi))
        refine ⟨fun _ _ => trivial, ?_⟩
        have hnd : ∀ c', o.op ≠ .defer c' := by intro c' e; rw [e] at hoc; cases hoc
        rw [Oper.semAt_eq _ _ _ hnd]
        have hexec : (execOp a.eval o).run P w = .ok (.enter g ((xs ++ c'.args.map a.eval) ++ ys)) w := by
          obtain ⟨dst, op, type, pos, aft, guard⟩ := o
          simp only at hoc
          subst hoc
          simp only [execOp, resolve, hcv, hxf, Deferred.ofValue, Sem.run_bind, Sem.run_pure, Result.andThen_ok, invoke]
          exact henter w
        rw [hexec]
        refine ⟨fun h => by simp [Fence.wide] at h, ?_⟩
        have hc' : CallsIn (Fw ro) 0 P g ((xs ++ c'.args.map a.eval) ++ ys) w _ := hcalls
        refine CallsIn.mono (CallsIn.more hc' (Nat.zero_le _)) fun e w₁ he => ?_
        cases e with
        | returned v =>
          obtain ⟨I', ι', hc₁, hrep, hgh, hstill⟩ := he
          have hnext : K (a.put o.dst v) w₁ := by
            rw [hdst]
            have hσ : (putW s r.dst dv (upAll s.σ [(c, some (.arr es rows false))])).σ = upAll s.σ [(c, some (.arr es rows false))] := putW_σ
            refine hK _ _ ⟨I', ι', D, ?_⟩
            show SimX P G B w0 I0 gh _ (putW s r.dst dv (upAll s.σ [(c, some (.arr es rows false))])) _ w₁ I' ι' D
            refine ⟨by rw [hσ]; exact hc₁, fun b hb => .inl (hx.names b hb), ?_, ?_, ⟨fun i cs hi => ?_, hx.glob.prim⟩, fun t ht => ?_, fun x y hg => by rw [hσ]; exact hgh x y (.inl hg), fun b hb => hx.base b hb, fun r o hk => ⟨(hx.kept r o hk).1, hstill r o (hx.kept r o hk).1 (hx.kept r o hk).2⟩, fun p hp => ?_⟩
            · obtain ⟨rs, h1, h2, h3⟩ := hx.dfs
              have : Marks B gh.keep w₁ a.defers := ⟨rs, h1, h2, fun r hr => ⟨(h3 r hr).1, (h3 r hr).2.1, hstill r _ rfl (h3 r hr).2.2⟩⟩
              cases r.dst <;> exact this
            · have := hx.size
              cases r.dst with
              | none => exact this
              | some d => simpa [Act.put, putW] using this
            · have := hgh _ _ (.inr (.inr ⟨i, cs, hi, rfl, rfl⟩))
              cases this with
              | pv h => exact h
            · rw [hσ, get_put ht fun d e => (hdlt d e).2]
              cases hrd : r.dst with
              | none => simp only [Act.put, reduceCtorEq, if_false]; exact hgh _ _ (.inr (.inl ⟨t, ht, rfl, rfl⟩))
              | some d =>
                have hds : d < a.tmps.size := by rw [hx.size]; exact (hdlt d hrd).1
                simp only [Act.put, Option.some.injEq]
                by_cases e : d = t
                · subst e; rw [if_pos rfl]
                  have : (a.tmps.setIfInBounds d v).getD d undef = v := by simp [Array.getD, hds]
                  rw [this]; exact hrep
                · rw [if_neg e]
                  have : (a.tmps.setIfInBounds d v).getD t undef = a.tmps.getD t undef := by
                    simp only [Array.getD_eq_getD_getElem?]
                    rw [Array.getElem?_setIfInBounds_ne e]
                  rw [this]; exact hgh _ _ (.inr (.inl ⟨t, ht, rfl, rfl⟩))
            · obtain ⟨h1, h2, k, h3, h4⟩ := hx.loop p hp
              refine ⟨by rw [putW_nt]; exact h1, h2, k, ?_, hstill _ _ rfl h4⟩
              rw [get_put (by decide) fun d e => (hdlt d e).2, if_neg (fun e => by have := (hdlt _ e).1; simp only [markT] at this h1; omega)]
              exact h3
          exact hnext
        | panicked ch => exact he.elim
        | outgrown => exact he.elim
      · cases hcall
    · cases hcall
  | left hgd hv =>
    rename_i t want
    have hwant : Region.wanted o (yielded ops a.tmps) = false := by
      rcases hv with hv | hv
      · exact wanted_of (b := false) hsim hg hsm (fun t' want' e => by rw [hgd] at e; cases e; simpa using hv) (fun _ e => by rw [hgd] at e; cases e)
      · exact wanted_undef hsim hg hsm hgd hv
    rw [hwant, if_neg (by simp)]
    refine ⟨fun _ _ => trivial, ?_⟩
    obtain ⟨I, ι, D, hx⟩ := hsim
    rw [hdst]
    exact hK _ _ ⟨I, ι, D, hx.put hdlt hx.core Later.refl (.tup (cs := #[]) rfl fun j x q hx => by simp at hx) (fun b hb => .inl (hx.names b hb)) (fun b hb => .inl hb)⟩
end
end Go.Ab
