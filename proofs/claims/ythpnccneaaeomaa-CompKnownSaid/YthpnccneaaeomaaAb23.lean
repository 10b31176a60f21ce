/- One operation's check against the model's, and its soundness. Under: nothing. -/
import Derived.Test.YthpnccneaaeomaaAb22
namespace Go.Ab
open Go.RowKit

def isSl (P : Program) (t : Nat) : Option Nat := match P.underlying t with | some (.slice el) => some el | _ => none
def isStr (P : Program) (t : Nat) : Bool := match P.underlying t with | some .string => true | _ => false
def isBoolT (P : Program) (t : Nat) : Bool := match P.underlying t with | some .bool => true | _ => false
def isU8 (P : Program) (t : Nat) : Bool := match P.underlying t with | some (.int .u8) => true | _ => false
def isSlOf (P : Program) (t es : Nat) : Bool := match P.underlying t with | some (.slice el) => chkSize P el es | _ => false
def isBytes (P : Program) (t : Nat) : Bool := match P.underlying t with | some (.slice el) => isU8 P el | _ => false

theorem isSlOf_spec {P : Program} {t es : Nat} (h : isSlOf P t es = true) : ∃ el, P.underlying t = some (.slice el) ∧ chkSize P el es = true := by
  unfold isSlOf at h; split at h
  · rename_i el he; exact ⟨el, he, h⟩
  · cases h
theorem isStr_spec {P : Program} {t : Nat} (h : isStr P t = true) : P.underlying t = some .string := by
  unfold isStr at h; split at h
  · assumption
  · cases h
theorem isBoolT_spec {P : Program} {t : Nat} (h : isBoolT P t = true) : P.underlying t = some .bool := by
  unfold isBoolT at h; split at h
  · assumption
  · cases h
theorem isBytes_spec {P : Program} {t : Nat} (h : isBytes P t = true) : ∃ el, P.underlying t = some (.slice el) ∧ P.underlying el = some (.int .u8) := by
  unfold isBytes at h; split at h
  · rename_i el he
    refine ⟨el, he, ?_⟩
    unfold isU8 at h; split at h
    · assumption
    · cases h
  · cases h

def chkAppT (P : Program) (sT xT es bytes : Nat) : Bool :=
  match P.underlying sT, P.underlying xT with
  | some (.slice el), some (.slice _) => (match P.info? el with
    | some i => i.size == es && i.bytes == bytes && decide (0 < bytes) && (match i.zero with | some z => z.cells.size == es | none => false)
    | none => false)
  | _, _ => false

theorem chkAppT_spec {P : Program} {sT xT es bytes : Nat} (h : chkAppT P sT xT es bytes = true) : ∃ el, AppT P sT xT el es bytes := by
  unfold chkAppT at h
  split at h
  · rename_i el el' h1 h2
    split at h
    · rename_i i hi
      simp only [Bool.and_eq_true, beq_iff_eq, decide_eq_true_eq] at h
      obtain ⟨⟨⟨h3, h4⟩, h5⟩, h6⟩ := h
      split at h6
      · rename_i z hz
        exact ⟨el, h1, ⟨el', h2⟩, ⟨i, z, hi, h3, h4, hz, by simpa using h6⟩, h5⟩
      · cases h6
    · cases h
  · cases h

def chkBuiltin (P : Program) (b : Builtin) (ts : List TypeId) (args : List Operand) (r : ROp) : Bool :=
  match b, ts, args, r with
  | .len, [t], [x], .slen y => (isSl P t).isSome && chkA x y
  | .len, [t], [x], .strlen y => isStr P t && chkA x y
  | .len, [t], [_], .alen n => (match P.underlying t with | some (.array m _) => m == n | _ => false)
  | .append, [s, t], [x, y], .append es bytes x' y' => chkAppT P s t es bytes && chkA x x' && chkA y y'
  | .copy, [d, _], [x, y], .copy es x' y' => isSlOf P d es && chkA x x' && chkA y y'
  | .clear, [t], [x], .clear es z x' => (match P.underlying t with | some (.slice el) => chkSize P el es && chkZero P el (z.map .pv) | _ => false) && allCells (z.map .pv) && chkA x x'
  | .min, _, xs, .mm false ys => chkAs xs ys
  | .max, _, xs, .mm true ys => chkAs xs ys
  | _, _, _, _ => false

def chkFld (P : Program) (t f : Nat) (off n : Nat) (agg : Option Bool) : Bool :=
  match P.underlying t with
  | some (.struct fs) => (match fs[f]? with
    | some fd => fd.offset == off && chkSize P fd.type n && (match agg with | some g => chkAgg P fd.type g | none => true)
    | none => false)
  | _ => false

def chkMap (P : Program) (t : Nat) : Option Nat := match P.underlying t with
  | some (.map k e) => if isStr P k then some e else none
  | _ => none

theorem chkMap_spec {P : Program} {t e : Nat} (h : chkMap P t = some e) : ∃ k, P.underlying t = some (.map k e) ∧ P.underlying k = some .string := by
  unfold chkMap at h; split at h
  · rename_i k e' he
    split at h
    · rename_i hk; cases h; exact ⟨k, he, isStr_spec hk⟩
    · cases h
  · cases h

def chkEqs (P : Program) (t : Nat) (kinds : List Nat) : Bool := match P.underlying t with
  | some (.struct fs) => !P.stoodInHeld t && !P.eqGuardType P.depth t && chkFields P fs.toList kinds 0
  | _ => false

theorem chkEqs_spec {P : Program} {t : Nat} {ks : List Nat} (h : chkEqs P t ks = true) : ∃ fs : Array Field, P.underlying t = some (.struct fs) ∧ P.stoodInHeld t = false ∧ P.eqGuardType P.depth t = false ∧ chkFields P fs.toList ks 0 = true := by
  unfold chkEqs at h; split at h
  · rename_i fs hf
    simp only [Bool.and_eq_true, Bool.not_eq_true'] at h
    exact ⟨fs, hf, h.1.1, h.1.2, h.2⟩
  · cases h

def chkEqa (P : Program) (t : Nat) (kinds : List Nat) : Bool := match P.underlying t with
  | some (.array len el) => !P.eqGuardType P.depth t && (match P.info? el with | some i => i.size == 1 | none => false) && kindOk P el (kinds.headD 0) && chkAgg P el false && kinds == List.replicate len (kinds.headD 0)
  | _ => false

theorem chkEqa_spec {P : Program} {t : Nat} {ks : List Nat} (h : chkEqa P t ks = true) : ∃ len el k ie, P.underlying t = some (.array len el) ∧ P.eqGuardType P.depth t = false ∧ P.info? el = some ie ∧ ie.size = 1 ∧ kindOk P el k = true ∧ chkAgg P el false = true ∧ ks = List.replicate len k := by
  unfold chkEqa at h; split at h
  · rename_i len el hu
    simp only [Bool.and_eq_true, Bool.not_eq_true', beq_iff_eq] at h
    obtain ⟨⟨⟨⟨h1, h2⟩, h3⟩, h4⟩, h5⟩ := h
    split at h2
    · rename_i i hi
      exact ⟨len, el, _, i, hu, h1, hi, by simpa using h2, h3, h4, h5⟩
    · cases h2
  · cases h

def chkInfo (P : Program) (t es bytes : Nat) : Bool := match P.info? t with | some i => i.size == es && i.bytes == bytes | none => false

def chkOp (P : Program) (o : Op) (r : ROp) : Bool :=
  match o, r with
  | .move x, .mv y => chkA x y
  | .assign x, .mv y => chkA x y
  | .pick c a b, .pick c' a' b' => chkA c c' && chkA a a' && chkA b b'
  | .alloc t, .alloc z => chkZero P t z
  | .box _ x, .box n y => n != 0 && chkA x y
  | .load t x, .load g n y => chkSize P t n && chkAgg P t g && chkA x y
  | .store t x y, .store n x' y' => chkSize P t n && n != 0 && chkA x x' && chkA y y'
  | .binOp op _ x y _, .bin op' x' y' => decide (op = op') && chkA x x' && chkA y y'
  | .binOp .eql t x y _, .eqb false x' y' => isBoolT P t && chkA x x' && chkA y y'
  | .binOp .neq t x y _, .eqb true x' y' => isBoolT P t && chkA x x' && chkA y y'
  | .binOp .eql t x y _, .eqs false ks x' y' => (chkEqs P t ks || chkEqa P t ks) && chkA x x' && chkA y y'
  | .binOp .neq t x y _, .eqs true ks x' y' => (chkEqs P t ks || chkEqa P t ks) && chkA x x' && chkA y y'
  | .binOp .eql t x (.const (.slice none 0 0)) _, .isnil false x' => (isSl P t).isSome && chkA x x'
  | .binOp .neq t x (.const (.slice none 0 0)) _, .isnil true x' => (isSl P t).isSome && chkA x x'
  | .unOp .not _ x, .not y => chkA x y
  | .unOp .neg _ x, .neg y => chkA x y
  | .convert s d x, .conv k y => (P.underlying s).isSome && (match P.underlying d with | some (.int k') => decide (k = k') | _ => false) && chkA x y
  | .convert s d x, .same y => (P.underlying s).isSome && isStr P d && chkA x y
  | .convert s d x, .s2b y => isStr P s && isBytes P d && chkA x y
  | .convert s d x, .b2s y => isBytes P s && isStr P d && chkA x y
  | .makeFunc fn a b, .mkf fn' a' b' => decide (fn = fn') && chkAs a.toList a' && chkAs b.toList b'
  | .makeMap _ none, .mkmap => true
  | .insert t m k v, .insert m' k' v' => (chkMap P t).isSome && chkA m m' && chkA k k' && chkA v v'
  | .lookup t m k true, .lookup m' k' z => (match chkMap P t with | some e => chkZero1 P e z | none => false) && chkA m m' && chkA k k'
  | .makeSlice t l c, .mksl es by' z x => (match P.underlying t with | some (.slice el) => chkInfo P el es by' && chkZero P el (z.map .pv) | _ => false) && allCells (z.map .pv) && chkA l x && chkA c x
  | .slice t x lo hi mx, .slice es y lo' hi' mx' => isSlOf P t es && chkA x y && chkO lo lo' && chkO hi hi' && chkO mx mx' && (hi.isSome || mx.isNone)
  | .slice t x lo hi none, .sslice y lo' hi' => isStr P t && chkA x y && chkO lo lo' && chkO hi hi'
  | .fieldAddr t x f, .faddr y off => (match P.underlying t with | some (.struct fs) => (match fs[f]? with | some fd => fd.offset == off && (match P.info? fd.type with | some i => i.size != 0 | none => false) | none => false) | _ => false) && chkA x y
  | .field t x f, .field g off n y => (match P.underlying t with | some (.struct fs) => (match fs[f]? with | some fd => fd.offset == off && chkSize P fd.type n && chkAgg P fd.type g | none => false) | _ => false) && chkA x y
  | .indexAddr t x i, .iaddr es y j => isSlOf P t es && chkA x y && chkA i j
  | .index t x i, .index g len es y j => (match P.underlying t with | some (.array n el) => n == len && chkSize P el es && chkAgg P el g | _ => false) && chkA x y && chkA i j
  | .index t x i, .sindex y j => isStr P t && chkA x y && chkA i j
  | .extract x i, .extract y j => chkA x y && i == j
  | .build t ps, .build z ps' => chkZero P t z && infosOk P t && chkParts P (placesOf P t) ps.toList ps'
  | .buildSlice t n ps, .bsl es m z ps' => n == m && isSlOf P t es && (match P.underlying t with | some (.slice el) => chkZero P el z | _ => false) && z.length == es && decide (n * es ≤ 2 ^ 24) && chkParts P (fun i => some (i * es, es)) ps.toList (ps'.map fun (i, x) => (i * es, es, x))
  | .call c, r => (match c.callee with | .builtin b => chkBuiltin P b c.argTypes.toList c.args.toList r | _ => false)
  | _, _ => false

section
variable {P : Program} {B : Nat} {w0 : World} {I0 : Imm} {w : World} {I : Imm} {ι : Nat → Option Nat} {σ : Store} {D : Nat → Prop} {nm : Nat} {ρ : Operand → Value} {ev : RA → AV} {e : Eff}

theorem execOp_builtin {b : Builtin} {c : Call} {o : Oper} (ho : o.op = .call c) (hb : c.callee = .builtin b) : execOp ρ o = builtin b c.argTypes o.type (c.args.map fun | .const _ => true | _ => false) (c.args.map ρ) := by
  obtain ⟨dst, op, type, pos, after, guard⟩ := o
  simp only at ho
  subst ho
  simp only [execOp, resolve, hb]
  rfl

variable (hc : Core B w0 I0 w I ι σ D) (hn : ¬ D nm) (hev : ∀ o r, chkA o r = true → RepA w I ι σ D (ρ o) (ev r))
include hc hn hev

theorem builtin_sound {b : Builtin} {ts : Array TypeId} {xs : Array Operand} {ty : TypeId} {cs : Array Bool} {r : ROp} (hk : chkBuiltin P b ts.toList xs.toList r = true) (h : step σ nm ev r = some e) :
    Good P B w0 I0 w I ι σ D nm e (builtin b ts ty cs (xs.map ρ)) := by
  obtain ⟨tl⟩ := ts
  obtain ⟨xl⟩ := xs
  simp only at hk
  have hm : Array.map ρ ⟨xl⟩ = ⟨xl.map ρ⟩ := by simp
  rw [hm]
  unfold chkBuiltin at hk
  split at hk
  · simp only [Bool.and_eq_true] at hk
    rename_i t x y
    obtain ⟨el, hel⟩ := Option.isSome_iff_exists.1 hk.1
    unfold isSl at hel; split at hel
    · exact snd_slen hc hev (by assumption) hk.2 h
    · cases hel
  · simp only [Bool.and_eq_true] at hk
    exact snd_strlen hc hev (isStr_spec hk.1) hk.2 h
  · split at hk
    · simp at hk; subst hk
      exact snd_alen hc (by assumption) h
    · cases hk
  · simp only [Bool.and_eq_true] at hk
    obtain ⟨el, ht⟩ := chkAppT_spec hk.1.1
    exact snd_append hc hn hev ht hk.1.2 hk.2 h
  · simp only [Bool.and_eq_true] at hk
    obtain ⟨el, ht, hs⟩ := isSlOf_spec hk.1.1
    exact snd_copy hc hev ht hs hk.1.2 hk.2 h
  · rename_i es z x'
    simp only [Bool.and_eq_true] at hk
    obtain ⟨⟨h1, h2⟩, h3⟩ := hk
    split at h1
    · rename_i el ht
      simp only [Bool.and_eq_true] at h1
      exact snd_clear hc hev ht h1.1 h1.2 h2 h3 h
    · cases h1
  · rw [← hm]; exact snd_mm (isMax := false) (ts := ⟨tl⟩) (ty := ty) hc hev hk h
  · rw [← hm]; exact snd_mm (isMax := true) (ts := ⟨tl⟩) (ty := ty) hc hev hk h
  · cases hk

theorem step_sound {o : Oper} {r : ROp} (hcn : ∀ v, ρ (.const v) = v) (hk : chkOp P o.op r = true) (h : step σ nm ev r = some e) : Good P B w0 I0 w I ι σ D nm e (execOp ρ o) := by
  obtain ⟨dst, op, type, pos, after, guard⟩ := o
  simp only at hk
  unfold chkOp at hk
  split at hk
  · exact snd_mv hc hev hk h
  · exact snd_mv hc hev hk h
  · simp only [Bool.and_eq_true] at hk; exact snd_pick hc hev hk.1.1 hk.1.2 hk.2 h
  · exact snd_alloc hc hn hk h
  · simp only [Bool.and_eq_true, bne_iff_ne, ne_eq] at hk; exact snd_box hc hn hev hk.1 hk.2 h
  · simp only [Bool.and_eq_true] at hk; exact snd_load hc hev hk.1.1 hk.1.2 hk.2 h
  · simp only [Bool.and_eq_true, bne_iff_ne, ne_eq] at hk; exact snd_store hc hev hk.1.1.1 hk.1.1.2 hk.1.2 hk.2 h
  · simp only [Bool.and_eq_true, decide_eq_true_eq] at hk; obtain ⟨⟨rfl, h1⟩, h2⟩ := hk; exact snd_bin hc hev h1 h2 h
  · simp only [Bool.and_eq_true] at hk; exact snd_eqb (neq := false) hc hev (isBoolT_spec hk.1.1) hk.1.2 hk.2 h
  · simp only [Bool.and_eq_true] at hk; exact snd_eqb (neq := true) hc hev (isBoolT_spec hk.1.1) hk.1.2 hk.2 h
  · simp only [Bool.and_eq_true, Bool.or_eq_true] at hk
    rcases hk.1.1 with h0 | h0
    · obtain ⟨fs, a, b, c, d⟩ := chkEqs_spec h0; exact snd_eqs (neq := false) hc hev a b c d hk.1.2 hk.2 h
    · obtain ⟨len, el, k, ie, a, b, c, d, f, g, rfl⟩ := chkEqa_spec h0; exact snd_eqa (neq := false) hc hev a b c d f g hk.1.2 hk.2 h
  · simp only [Bool.and_eq_true, Bool.or_eq_true] at hk
    rcases hk.1.1 with h0 | h0
    · obtain ⟨fs, a, b, c, d⟩ := chkEqs_spec h0; exact snd_eqs (neq := true) hc hev a b c d hk.1.2 hk.2 h
    · obtain ⟨len, el, k, ie, a, b, c, d, f, g, rfl⟩ := chkEqa_spec h0; exact snd_eqa (neq := true) hc hev a b c d f g hk.1.2 hk.2 h
  · simp only [Bool.and_eq_true] at hk
    obtain ⟨el, hel⟩ := Option.isSome_iff_exists.1 hk.1
    unfold isSl at hel; split at hel
    · exact snd_isnil (neq := false) hc hev (by assumption) hk.2 (hcn _) h
    · cases hel
  · simp only [Bool.and_eq_true] at hk
    obtain ⟨el, hel⟩ := Option.isSome_iff_exists.1 hk.1
    unfold isSl at hel; split at hel
    · exact snd_isnil (neq := true) hc hev (by assumption) hk.2 (hcn _) h
    · cases hel
  · exact snd_not hc hev hk h
  · exact snd_neg hc hev hk h
  · simp only [Bool.and_eq_true] at hk
    obtain ⟨⟨h1, h2⟩, h3⟩ := hk
    obtain ⟨ds, hds⟩ := Option.isSome_iff_exists.1 h1
    split at h2
    · simp only [decide_eq_true_eq] at h2; subst h2; exact snd_conv hc hev hds (by assumption) h3 h
    · cases h2
  · simp only [Bool.and_eq_true] at hk
    obtain ⟨⟨h1, h2⟩, h3⟩ := hk
    obtain ⟨ds, hds⟩ := Option.isSome_iff_exists.1 h1
    exact snd_same hc hev hds (isStr_spec h2) h3 h
  · simp only [Bool.and_eq_true] at hk
    obtain ⟨el, h1, h2⟩ := isBytes_spec hk.1.2
    exact snd_s2b hc hn hev (isStr_spec hk.1.1) h1 h2 hk.2 h
  · simp only [Bool.and_eq_true] at hk
    obtain ⟨el, h1, h2⟩ := isBytes_spec hk.1.1
    exact snd_b2s hc hev h1 (isStr_spec hk.1.2) h2 hk.2 h
  · simp only [Bool.and_eq_true, decide_eq_true_eq] at hk; obtain ⟨⟨rfl, h1⟩, h2⟩ := hk; exact snd_mkf hc hev h1 h2 h
  · exact snd_mkmap hc hn h
  · simp only [Bool.and_eq_true] at hk
    obtain ⟨⟨⟨h1, h2⟩, h3⟩, h4⟩ := hk
    obtain ⟨et, het⟩ := Option.isSome_iff_exists.1 h1
    obtain ⟨kt, a, b⟩ := chkMap_spec het
    exact snd_insert hc hev a b h2 h3 h4 h
  · simp only [Bool.and_eq_true] at hk
    obtain ⟨⟨h1, h2⟩, h3⟩ := hk
    split at h1
    · rename_i et het
      obtain ⟨kt, a, b⟩ := chkMap_spec het
      exact snd_lookup hc hev a b h1 h2 h3 h
    · cases h1
  · simp only [Bool.and_eq_true] at hk
    obtain ⟨⟨⟨h1, h2⟩, h3⟩, h4⟩ := hk
    split at h1
    · rename_i el hel
      simp only [Bool.and_eq_true] at h1
      obtain ⟨h5, h6⟩ := h1
      unfold chkInfo at h5
      split at h5
      · rename_i i hi
        simp only [Bool.and_eq_true, beq_iff_eq] at h5
        exact snd_mksl hc hn hev hel hi h5.1 h5.2 h6 h2 h3 h4 h
      · cases h5
    · cases h1
  · simp only [Bool.and_eq_true] at hk
    obtain ⟨⟨⟨⟨⟨h1, h2⟩, h3⟩, h4⟩, h5⟩, h6⟩ := hk
    obtain ⟨el, ht, hs⟩ := isSlOf_spec h1
    refine snd_slice hc hev ht hs h2 h3 h4 h5 (fun he => ?_) h
    subst he; simpa using h6
  · simp only [Bool.and_eq_true] at hk
    exact snd_sslice hc hev (isStr_spec hk.1.1.1) hk.1.1.2 hk.1.2 hk.2 h
  · simp only [Bool.and_eq_true] at hk
    obtain ⟨h1, h2⟩ := hk
    split at h1
    · rename_i fs hfs
      split at h1
      · rename_i fd hfd
        simp only [Bool.and_eq_true, beq_iff_eq] at h1
        obtain ⟨h3, h4⟩ := h1
        split at h4
        · rename_i i hi
          exact snd_faddr (n := i.size) hc hev hfs hfd h3 (by simp [chkSize, hi]) (by simpa using h4) h2 h
        · cases h4
      · cases h1
    · cases h1
  · simp only [Bool.and_eq_true] at hk
    obtain ⟨h1, h2⟩ := hk
    split at h1
    · rename_i fs hfs
      split at h1
      · rename_i fd hfd
        simp only [Bool.and_eq_true, beq_iff_eq] at h1
        exact snd_field hc hev hfs hfd h1.1.1 h1.1.2 h1.2 h2 h
      · cases h1
    · cases h1
  · simp only [Bool.and_eq_true] at hk
    obtain ⟨el, ht, hs⟩ := isSlOf_spec hk.1.1
    exact snd_iaddr hc hev ht hs hk.1.2 hk.2 h
  · simp only [Bool.and_eq_true] at hk
    obtain ⟨⟨h1, h2⟩, h3⟩ := hk
    split at h1
    · rename_i n el hel
      simp only [Bool.and_eq_true, beq_iff_eq] at h1
      obtain ⟨⟨rfl, h4⟩, h5⟩ := h1
      exact snd_index hc hev hel h4 h5 h2 h3 h
    · cases h1
  · simp only [Bool.and_eq_true] at hk
    exact snd_sindex hc hev (isStr_spec hk.1.1) hk.1.2 hk.2 h
  · simp only [Bool.and_eq_true, beq_iff_eq] at hk
    obtain ⟨h1, rfl⟩ := hk
    exact snd_extract hc hev h1 h
  · simp only [Bool.and_eq_true] at hk
    exact snd_build hc hev hk.1.1 hk.1.2 hk.2 h
  · simp only [Bool.and_eq_true, beq_iff_eq, decide_eq_true_eq] at hk
    obtain ⟨⟨⟨⟨⟨rfl, h1⟩, h2⟩, h3⟩, h4⟩, h5⟩ := hk
    obtain ⟨el, ht, hs⟩ := isSlOf_spec h1
    simp only [ht] at h2
    exact snd_bsl hc hn hev ht hs h2 h3 h4 h5 h
  · split at hk
    · rename_i c b hb
      rw [execOp_builtin rfl hb]
      exact builtin_sound hc hn hev hk h
    · cases hk
  · cases hk

end
end Go.Ab
