/- The weakest precondition of the own code on abstract states. Under: nothing. -/
import Derived.Test.YthpnccneaaeomaaAb1
namespace Go.Ab

/-! ### Publishing: a value handed out of the activation is pure from then on; the blocks it shows are sealed -/

def pubL (f : AV → Option (PV × List Nat)) : List AV → Option (List PV × List Nat)
  | [] => some ([], [])
  | a :: l => match f a with
    | some (p, n) => match pubL f l with
      | some (ps, m) => some (p :: ps, n ++ m)
      | none => none
    | none => none

def pubR (f : AV → Option (PV × List Nat)) : List (List AV) → Option (List (List PV) × List Nat)
  | [] => some ([], [])
  | a :: l => match pubL f a with
    | some (p, n) => match pubR f l with
      | some (ps, m) => some (p :: ps, n ++ m)
      | none => none
    | none => none

def pub (σ : Store) : Nat → AV → Option (PV × List Nat)
  | _, .pv p => some (p, [])
  | _, .emp es => some (.emp es, [])
  | _, .fsl es rows => some (.sl es rows, [])
  | 0, _ => none
  | k + 1, .agg cs => match pubL (pub σ k) cs with | some (ps, n) => some (.agg ps, n) | none => none
  | k + 1, .tup cs => match pubL (pub σ k) cs with | some (ps, n) => some (.tup ps, n) | none => none
  | k + 1, .func fn a b => match pubL (pub σ k) a with
    | some (ps, n) => match pubL (pub σ k) b with
      | some (qs, m) => some (.func fn ps qs, n ++ m)
      | none => none
    | none => none
  | k + 1, .own b i n => match find σ b with
    | some (.arr es rows _) => some (.sl es ((rows.drop i).take n), [b])
    | some (.box es rows _) => match pubR (pub σ k) ((rows.drop i).take n) with
      | some (ps, m) => some (.sl es ps, b :: m)
      | none => none
    | _ => none
  | k + 1, .ptr b i j => match find σ b with
    | some o => match o.row? i with
      | some row => match pubL (pub σ k) (row.drop j) with
        | some (ps, m) => some (.ref ps, b :: m)
        | none => none
      | none => none
    | none => none
  | _, _ => none

def SObj.sealO : SObj → SObj
  | .arr e r _ => .arr e r true
  | .box e r _ => .box e r true
  | o => o

def upS : Store → Nat → Option SObj → Store
  | [], b, x => [(b, x)]
  | (k, o) :: s, b, x => match k == b with
    | true => (k, x) :: s
    | false => (k, o) :: upS s b x

def upAll : Store → List (Nat × Option SObj) → Store
  | s, [] => s
  | s, (b, x) :: l => upAll (upS s b x) l

def sealAll : Store → List Nat → Store
  | s, [] => s
  | s, b :: l => match find s b with
    | some o => sealAll (upS s b (some o.sealO)) l
    | none => sealAll s l

/-! ### What a call hands back -/

abbrev Own := List (Nat × Nat)      -- (component of the result, cell of it)

def ownAt (own : Own) (i j : Nat) : Bool :=
  match own with
  | [] => false
  | (a, b) :: l => (a == i && b == j) || ownAt l i j

def impCells (own : Own) (i : Nat) : (nm j : Nat) → List PV → List AV × List (Nat × Option SObj)
  | _, _, [] => ([], [])
  | nm, j, p :: l =>
    match ownAt own i j, p with
    | true, .sl es rows => let (a, b) := impCells own i (nm + 1) (j + 1) l; (.own nm 0 rows.length :: a, (nm, some (.arr es rows false)) :: b)
    | _, _ => let (a, b) := impCells own i nm (j + 1) l; (.pv p :: a, b)

def impVal (own : Own) (i nm : Nat) (p : PV) : AV × List (Nat × Option SObj) :=
  match p with
  | .agg ps => let (a, b) := impCells own i nm 0 ps; (.agg a, b)
  | p => match impCells own i nm 0 [p] with
    | ([a], b) => (a, b)
    | _ => (.pv p, [])

def impVals (own : Own) : (i nm : Nat) → List PV → List AV × List (Nat × Option SObj)
  | _, _, [] => ([], [])
  | i, nm, p :: l => let (a, u) := impVal own i nm p; let (as, us) := impVals own (i + 1) (nm + u.length) l; (a :: as, u ++ us)

def imp (own : Own) (nm : Nat) (r : PV) : AV × List (Nat × Option SObj) :=
  match own with
  | [] => (.pv r, [])
  | _ => match r with
    | .tup ps => let (a, u) := impVals own 0 nm ps; (.tup a, u)
    | p => impVal own 0 nm p

def calleeOf : AV → Option (Nat × List AV × List AV)
  | .func (.func g) a b => some (g, a, b)
  | .pv (.func (.func g) a b) => some (g, a.map .pv, b.map .pv)
  | _ => none

structure Rec where
  rd : List Nat
  sl : List Nat
  wr : List Nat
  pre : Nat
  ins : Option (Nat × List UInt8) := none

def meets (a b : List Nat) : Bool := a.any fun x => b.any fun y => x == y

/-- Another key of the same map is no clash. -/
def Rec.insMeets (a b : Rec) : Bool := match a.ins with
  | none => false
  | some (m, k) => b.rd.any (· == m) || b.sl.any (· == m) || b.wr.any (· == m) || (match b.ins with | some (m', k') => m == m' && k == k' | none => false)

def Rec.clash (a b : Rec) : Bool := meets a.wr b.rd || meets a.wr b.sl || meets a.wr b.wr || meets a.rd b.wr || meets a.sl b.wr || a.insMeets b || b.insMeets a

/-- What an operation reads and writes. -/
def recOf (ev : RA → AV) (op : ROp) (e : Eff) (pre : Nat) : Rec := match op with
  | .insert m k _ => (match ev m, ev k with
    | .mref b, .pv (.str s) => { rd := [], sl := [], wr := [], pre := pre, ins := some (b, s) }
    | _, _ => { rd := e.rd, sl := [], wr := e.up.map (·.1), pre := pre })
  | _ => { rd := e.rd, sl := [], wr := e.up.map (·.1), pre := pre }

/-- Whatever two operations clash stand in a fixed order. -/
def compatOne (r : Rec) : Nat → List Rec → Bool
  | _, [] => true
  | i, x :: l => (!x.clash r || r.pre.testBit i) && compatOne r (i + 1) l

def compat : List Rec → List Rec → Bool
  | _, [] => true
  | done, r :: l => compatOne r 0 done && compat (done ++ [r]) l

/-- Names that one operation may give. -/
def stride : Nat := 4

/-! ### The same, by steps that the kernel takes at once: each is 'K' at the plain value (the laws are below) -/

mutual
def forceA {α : Sort _} : AV → (AV → α) → α
  | .pv (.int k n), K => K (.pv (.int k n))
  | .pv (.bool b), K => K (.pv (.bool b))
  | .pv p, K => K (.pv p)
  | .emp es, K => K (.emp es)
  | .fsl es rows, K => K (.fsl es rows)
  | .ptr b i j, K => forceN b fun b' => forceN i fun i' => forceN j fun j' => K (.ptr b' i' j')
  | .own b i n, K => forceN b fun b' => K (.own b' i n)
  | .mref b, K => forceN b fun b' => K (.mref b')
  | .agg cs, K => forceL cs fun cs' => K (.agg cs')
  | .tup cs, K => forceL cs fun cs' => K (.tup cs')
  | .func fn a b, K => forceL a fun a' => forceL b fun b' => K (.func fn a' b')
  | .anyB, K => K .anyB
  | .mark k, K => forceN k fun k' => K (.mark k')
  | .yld b, K => forceN b fun b' => K (.yld b')
  | .undef, K => K .undef
def forceL {α : Sort _} : List AV → (List AV → α) → α
  | [], K => K []
  | a :: l, K => forceA a fun a' => forceL l fun l' => K (a' :: l')
def forceN {α : Sort _} : Nat → (Nat → α) → α
  | 0, K => K 0
  | n + 1, K => K (n + 1)
end

def forceR {α : Sort _} : List (List AV) → (List (List AV) → α) → α
  | [], K => K []
  | a :: l, K => forceL a fun a' => forceR l fun l' => K (a' :: l')

def forceO {α : Sort _} : SObj → (SObj → α) → α
  | .arr e r s, K => K (.arr e r s)
  | .box e r s, K => forceR r fun r' => K (.box e r' s)
  | .map l, K => K (.map l)

def T.setK {α : Sort _} : Nat → T → Nat → AV → (T → α) → α
  | 0, _, _, v, K => K (.leaf v)
  | d + 1, .node l r, n, v, K => match n % 2 with
    | 0 => T.setK d l (n / 2) v fun l' => K (.node l' r)
    | _ => T.setK d r (n / 2) v fun r' => K (.node l r')
  | d + 1, _, n, v, K => match n % 2 with
    | 0 => T.setK d .nil (n / 2) v fun l' => K (.node l' .nil)
    | _ => T.setK d .nil (n / 2) v fun r' => K (.node .nil r')

def upK {α : Sort _} : Store → Nat → Option SObj → (Store → α) → α
  | [], b, x, K => (match x with | some o' => forceO o' fun o'' => K [(b, some o'')] | none => K [(b, none)])
  | (k, o) :: s, b, x, K => match k == b with
    | true => (match x with | some o' => forceO o' fun o'' => K ((k, some o'') :: s) | none => K ((k, none) :: s))
    | false => upK s b x fun s' => K ((k, o) :: s')

def upAllK {α : Sort _} : Store → List (Nat × Option SObj) → (Store → α) → α
  | s, [], K => K s
  | s, (b, x) :: l, K => forceN b fun b' => upK s b' x fun s' => upAllK s' l K

def sealAllK {α : Sort _} : Store → List Nat → (Store → α) → α
  | s, [], K => K s
  | s, b :: l, K => match find s b with
    | some o => upK s b (some o.sealO) fun s' => sealAllK s' l K
    | none => sealAllK s l K

/-! ### Dropping what is not looked at any more, and new numbers for the names that are left -/

mutual
def namesA : AV → List Nat
  | .ptr b _ _ => [b]
  | .own b _ _ => [b]
  | .mref b => [b]
  | .agg cs => namesL cs
  | .tup cs => namesL cs
  | .func _ a b => namesL a ++ namesL b
  | _ => []
def namesL : List AV → List Nat
  | [] => []
  | a :: l => namesA a ++ namesL l
end

def namesR : List (List AV) → List Nat
  | [] => []
  | r :: l => namesL r ++ namesR l

def namesE : List (List UInt8 × AV) → List Nat
  | [] => []
  | (_, v) :: l => namesA v ++ namesE l

def namesO : SObj → List Nat
  | .arr _ _ _ => []
  | .box _ rows _ => namesR rows
  | .map ents => namesE ents

def reach (σ : Store) : Nat → List Nat → List Nat → List Nat
  | 0, _, acc => acc
  | _, [], acc => acc
  | n + 1, b :: todo, acc => match acc.any (· == b) with
    | true => reach σ n todo acc
    | false => match find σ b with
      | none => reach σ n todo acc
      | some o => reach σ n (namesO o ++ todo) (acc ++ [b])

def idxIn : List Nat → Nat → Nat → Option Nat
  | [], _, _ => none
  | x :: l, b, k => match x == b with | true => some k | false => idxIn l b (k + 1)

mutual
def renA (f : Nat → Option Nat) : AV → AV
  | .pv p => .pv p
  | .emp es => .emp es
  | .fsl es rows => .fsl es rows
  | .ptr b i j => match f b with | some n => .ptr n i j | none => .undef
  | .own b i n => match f b with | some m => .own m i n | none => .undef
  | .mref b => match f b with | some n => .mref n | none => .undef
  | .agg cs => .agg (renL f cs)
  | .tup cs => .tup (renL f cs)
  | .func fn a b => .func fn (renL f a) (renL f b)
  | .anyB => .anyB
  | .yld _ => .undef
  | .mark _ => .undef
  | .undef => .undef
def renL (f : Nat → Option Nat) : List AV → List AV
  | [] => []
  | a :: l => renA f a :: renL f l
end

def renO (f : Nat → Option Nat) : SObj → SObj
  | .arr e r s => .arr e r s
  | .box e r s => .box e (r.map (renL f)) s
  | .map l => .map (l.map fun (k, v) => (k, renA f v))

def liveNames (tm : T) : List Nat → List Nat
  | [] => []
  | t :: l => namesA (tm.get tdepth t) ++ liveNames tm l

def normT (f : Nat → Option Nat) (tm : T) : List Nat → T → T
  | [], acc => acc
  | t :: l, acc => normT f tm l (acc.set tdepth t (renA f (tm.get tdepth t)))

def normS (f : Nat → Option Nat) (σ : Store) : List Nat → Nat → Store
  | [], _ => []
  | b :: l, k => (k, match find σ b with | some o => some (renO f o) | none => none) :: normS f σ l (k + 1)

/-- Names are looked for so far and no farther. -/
def reachFuel : Nat := 4000

def normNames (live : List Nat) (st : St) : List Nat := reach st.σ reachFuel (liveNames st.tm live) []

def norm (live : List Nat) (st : St) : St :=
  { tm := normT (fun b => idxIn (normNames live st) b 0) st.tm live .nil, σ := normS (fun b => idxIn (normNames live st) b 0) st.σ (normNames live st) 0, nx := (normNames live st).length, nt := st.nt }

def forceNs {α : Sort _} : List Nat → (List Nat → α) → α
  | [], K => K []
  | b :: l, K => forceN b fun b' => forceNs l fun l' => K (b' :: l')

def normTK {α : Sort _} (f : Nat → Option Nat) (tm : T) : List Nat → T → (T → α) → α
  | [], acc, K => K acc
  | t :: l, acc, K => forceA (renA f (tm.get tdepth t)) fun v => T.setK tdepth acc t v fun acc' => normTK f tm l acc' K

def normSK {α : Sort _} (f : Nat → Option Nat) (σ : Store) : List Nat → Nat → (Store → α) → α
  | [], _, K => K []
  | b :: l, k, K => forceN k fun k' => match find σ b with
    | some o => forceO (renO f o) fun o' => normSK f σ l (k' + 1) fun s => K ((k', some o') :: s)
    | none => normSK f σ l (k' + 1) fun s => K ((k', none) :: s)

def normK {α : Sort _} (live : List Nat) (st : St) (K : St → α) : α :=
  match st with
  | ⟨tm, σ, _, nt⟩ => forceNs (reach σ reachFuel (liveNames tm live) []) fun ns => normTK (fun b => idxIn ns b 0) tm live .nil fun tm' => normSK (fun b => idxIn ns b 0) σ ns 0 fun σ' => forceN ns.length fun nx' => K ⟨tm', σ', nx', nt⟩

/-- A function that changes one own block in place, said outright: its result, the block, the block's rows from then on. -/
structure PrimF where
  run : List AV → Store → Option (AV × Nat × Nat × List (List PV))
  frame : ∀ {args : List AV} {σ σ' : Store} {v : AV} {c es : Nat} {rows : List (List PV)}, run args σ = some (v, c, es, rows) → find σ' c = find σ c → run args σ' = some (v, c, es, rows)

/-- What is given: the package's variables, the functions said outright. -/
structure Gl where
  gl : Nat → Option (List PV)
  prim : Nat → Option PrimF

instance : CoeFun Gl fun _ => Nat → Option (List PV) := ⟨Gl.gl⟩

section
variable (G : Gl) (Ok : Nat → List PV → Own → PV → Prop)

def St.ev (st : St) : RA → AV
  | .t n => st.tm.get tdepth n
  | .c v => v
  | .f g => .func (.func g) [] []
  | .g i => match G i with | some cs => .pv (.ref cs) | none => .undef

def putW (st : St) (dst : Option Nat) (v : AV) (σ : Store) : St :=
  match dst with
  | some d => { st with tm := st.tm.set tdepth d v, σ := σ }
  | none => { st with σ := σ }

def putK {α : Sort _} (st : St) (dst : Option Nat) (v : AV) (σ : Store) (K : St → α) : α :=
  match st with
  | ⟨tm, _, nx, nt⟩ => match dst with
    | some d => forceA v fun v' => T.setK tdepth tm d v' fun tm' => K ⟨tm', σ, nx, nt⟩
    | none => K ⟨tm, σ, nx, nt⟩

/-- One operation, to be carried out. -/
def opW (r : RIns) (nm : Nat) (st : St) (K : St → Rec → Prop) : Prop :=
  match r.op with
  | .call f args => match calleeOf (st.ev G f) with
    | some (g, a, b) => match G.prim g with
      | some p => (match p.run (a ++ args.map (st.ev G) ++ b) st.σ, st with
        | some (v, c, es, rows), ⟨tm, σ, nx, nt⟩ => forceN c fun c' => upAllK σ [(c', some (.arr es rows false))] fun σ' => putK ⟨tm, σ, nx, nt⟩ r.dst v σ' fun st' => K st' { rd := [c'], sl := [], wr := [c'], pre := r.pre }
        | none, _ => False)
      | none => match pubL (pub st.σ 8) (a ++ args.map (st.ev G) ++ b) with
        | some (ps, m) => ∃ own res, Ok g ps own res ∧ (match imp own nm res, st with
          | (v, up), ⟨tm, σ, nx, nt⟩ => sealAllK σ m fun σ₁ => upAllK σ₁ up fun σ₂ => putK ⟨tm, σ, nx, nt⟩ r.dst v σ₂ fun st' => K st' { rd := [], sl := m, wr := up.map (·.1), pre := r.pre })
        | none => False
    | none => False
  | op => match st with
    | ⟨tm, σ, nx, nt⟩ => match step σ nm (St.ev G ⟨tm, σ, nx, nt⟩) op with
      | some e => upAllK σ e.up fun σ' => putK ⟨tm, σ, nx, nt⟩ r.dst e.v σ' fun st' => K st' (recOf (St.ev G ⟨tm, σ, nx, nt⟩) op e r.pre)
      | none => False

/-- One operation under its guard. -/
def insW (r : RIns) (nm : Nat) (st : St) (K : St → Rec → Prop) : Prop :=
  match r.guard with
  | none => opW G Ok r nm st K
  | some (t, want) => match st.ev G (.t t) with
    | .pv (.bool x) => (match x, want with
      | true, true => opW G Ok r nm st K
      | false, false => opW G Ok r nm st K
      | _, _ => match st with | ⟨tm, σ, nx, nt⟩ => putK ⟨tm, σ, nx, nt⟩ r.dst (.tup []) σ fun st' => K st' { rd := [], sl := [], wr := [], pre := r.pre })
    | .tup [] => (match st with | ⟨tm, σ, nx, nt⟩ => putK ⟨tm, σ, nx, nt⟩ r.dst (.tup []) σ fun st' => K st' { rd := [], sl := [], wr := [], pre := r.pre })
    | _ => False

/-- The guard lets the operation through. -/
def guardOn (v : AV) (want : Bool) : Bool := match v with
  | .pv (.bool x) => (match x, want with | true, true => true | false, false => true | _, _ => false)
  | _ => false

def opsW (draw : Bool) : List RIns → Nat → List Rec → St → (St → Prop) → Prop
  | [], _, recs, st, K => match draw with
    | true => (match compat [] recs with | true => K st | false => False)
    | false => K st
  | r :: l, nm, recs, st, K => forceN nm fun nm' => insW G Ok r nm' st fun st' rec => opsW draw l (nm' + stride) (match draw with | true => recs ++ [rec] | false => []) st' K

/-- What a callee that runs on the caller's store does. -/
abbrev InlF := Nat → Option (List AV → Store → Nat → (AV → Store → Nat → Prop) → Prop)

/-- What a call of yield does: the arguments, the store, the count; the answer, the store, the count, the jump that is pending then. -/
abbrev YldF := List AV → Store → Nat → (AV → Store → Nat → Nat → Prop) → Prop

/-- What an iterator does, on the store of the loop's function: the name of the loop's record, the handler of yield, and as above; what it hands back is the mark of the pending jump. -/
abbrev ItrF := Nat → Option (Nat → YldF → List AV → Store → Nat → (AV → Store → Nat → Prop) → Prop)

structure Env where
  inl : InlF
  itr : ItrF
  yld : Option (Nat × YldF)

/-- The temporary that holds the mark. -/
def markT : Nat := 1023

def callS (h : List AV → Store → Nat → (AV → Store → Nat → Prop) → Prop) (args : List AV) (dst : Option Nat) (st : St) (K : St → Prop) : Prop :=
  match st with
  | ⟨tm, σ, nx, nt⟩ => h args σ nx fun v σ' nx' => putK ⟨tm, σ', nx', nt⟩ dst v σ' K

def callY (h : YldF) (args : List AV) (dst : Option Nat) (st : St) (K : St → Prop) : Prop :=
  match st with
  | ⟨tm, σ, nx, nt⟩ => match tm.get tdepth markT with
    | .mark 0 => h args σ nx fun v σ' nx' pd => forceN pd fun pd' => T.setK tdepth tm markT (.mark pd') fun tm' => putK ⟨tm', σ', nx', nt⟩ dst v σ' K
    | _ => False

/-- One operation in a region that goes in order. -/
def insS (E : Env) (r : RIns) (nm : Nat) (st : St) (K : St → Prop) : Prop :=
  match r.op with
  | .call f args => match st.ev G f with
    | .yld b => (match E.yld, r.guard with
      | some (b', h), none => (match b' == b with
        | true => callY h (args.map (st.ev G)) r.dst st K
        | false => False)
      | _, _ => False)
    | fv => match calleeOf fv with
      | some (g, a, b) => (match E.inl g with
        | some h => (match r.guard with
          | none => callS h (a ++ args.map (st.ev G) ++ b) r.dst st K
          | some (t, want) => match guardOn (st.ev G (.t t)) want with
            | true => callS h (a ++ args.map (st.ev G) ++ b) r.dst st K
            | false => insW G Ok r nm st fun st' _ => K st')
        | none => insW G Ok r nm st fun st' _ => K st')
      | none => insW G Ok r nm st fun st' _ => K st'
  | _ => insW G Ok r nm st fun st' _ => K st'

def opsS (E : Env) : List RIns → Nat → St → (St → Prop) → Prop
  | [], _, st, K => K st
  | r :: l, nm, st, K => forceN nm fun nm' => insS G Ok E r nm' st fun st' => opsS E l (nm' + stride) st' K

inductive Ex where
  | normal
  | exit (id : Nat)
  | ret
  deriving DecidableEq, Inhabited

def Ex.then (next : St → Prop) (Q : Ex → St → Prop) : Ex → St → Prop
  | .normal, st => next st
  | e, st => Q e st

def Ex.inBlock (id : Nat) (Q : Ex → St → Prop) : Ex → St → Prop
  | .exit i, st => match i == id with | true => Q .normal st | false => Q (.exit i) st
  | e, st => Q e st

def condW (v : AV) (A B : Prop) : Prop :=
  match v with
  | .pv (.bool b) => (match b with | true => A | false => B)
  | .anyB => A ∧ B
  | _ => False

/-- The parameters of a round. -/
def setPs {α : Sort _} : List Nat → List AV → T → (T → α) → α
  | p :: ps, a :: as, tm, K => forceA a fun a' => T.setK tdepth tm p a' fun tm' => setPs ps as tm' K
  | _, _, tm, K => K tm

/-- How a round's body has been left. -/
def endR (K : AV → Store → Nat → Nat → Prop) (e : Ex) (st : St) : Prop :=
  match e, st with
  | .normal, ⟨_, σ, nx, _⟩ => K (.pv (.bool true)) σ nx 0
  | .ret, ⟨_, σ, nx, _⟩ => K (.pv (.bool false)) σ nx 1
  | .exit i, ⟨_, σ, nx, _⟩ => K (.pv (.bool false)) σ nx (i + 2)

/-- Behind the loop. -/
def jumpW (Q : Ex → St → Prop) (tm : T) (nt : Nat) (v : AV) (σ : Store) (nx : Nat) : Prop :=
  match v with
  | .mark 0 => Q .normal ⟨tm, σ, nx, nt⟩
  | .mark 1 => Q .ret ⟨tm, σ, nx, nt⟩
  | .mark (k + 2) => Q (.exit k) ⟨tm, σ, nx, nt⟩
  | _ => False

def aw : RC → Bool → Env → (Ex → St → Prop) → St → Prop
  | .skip, _, _, Q, st => Q .normal st
  | .reg ops draw, _, E, Q, ⟨tm, σ, nx, nt⟩ => forceN (nx + stride * ops.length) fun nx' => (match draw with
    | true => opsW G Ok true ops nx [] ⟨tm, σ, nx', nt⟩ (Q .normal)
    | false => opsS G Ok E ops nx ⟨tm, σ, nx', nt⟩ (Q .normal))
  | .seq a b, nrm, E, Q, st => aw a nrm E (Ex.then (aw b nrm E Q) Q) st
  | .cond c a b, nrm, E, Q, st => condW (st.ev G c) (aw a nrm E Q st) (aw b nrm E Q st)
  | .block id b, nrm, E, Q, st => aw b nrm E (Ex.inBlock id Q) st
  | .loop live b, nrm, E, Q, st => ∀ X : St → Prop, (∀ s, (match nrm with | true => normK live s (aw b nrm E (Ex.then X Q)) | false => aw b nrm E (Ex.then X Q) s) → X s) → X st
  | .rng f ps as bd, _, E, Q, ⟨tm, σ, nx, nt⟩ => match calleeOf (St.ev G ⟨tm, σ, nx, nt⟩ f) with
    | some (g, a, b) => (match E.itr g with
      | some it => forceN (nx + 1) fun nx1 => it nx (fun args σ₁ nx₁ K => match args.length == ps.length with
          | true => setPs ps args tm fun tm' => aw as false ⟨E.inl, fun _ => none, none⟩ (Ex.then (aw bd false ⟨E.inl, fun _ => none, none⟩ (endR K)) fun _ _ => False) ⟨tm', σ₁, nx₁, nt⟩
          | false => False) (a ++ [.yld nx] ++ b) σ nx1 (jumpW Q tm nt)
      | none => False)
    | none => False
  | .exit id, _, _, Q, st => Q (.exit id) st
  | .scope b, nrm, E, Q, st => aw b nrm E Q st
  | .ret, _, _, Q, st => Q .ret st

inductive RRes where
  | tmp (t : Nat)
  | cell (t : Nat) (agg : Bool) (n : Nat)
  deriving Inhabited

structure RFn where
  nparams : Nat
  ntmps : Nat
  res : List RRes
  body : RC
  deriving Inhabited

def resA (st : St) : RRes → Option AV
  | .tmp t => some (st.ev G (.t t))
  | .cell t agg n => match step st.σ 0 (st.ev G) (.load agg n (.t t)) with | some e => some e.v | none => none

def resAs (st : St) : List RRes → Option (List AV)
  | [] => some []
  | r :: l => match resA G st r with
    | some v => match resAs st l with | some vs => some (v :: vs) | none => none
    | none => none

def argsK {α : Sort _} : Nat → List PV → T → (T → α) → α
  | _, [], t, K => K t
  | i, p :: l, t, K => T.setK tdepth t i (.pv p) fun t' => argsK (i + 1) l t' K

def resPV : List AV → AV
  | [v] => v
  | vs => .tup vs

/-- The end of a function all of whose results are handed out pure. -/
def retP (rs : List RRes) (r : PV) (e : Ex) (st : St) : Prop :=
  match e with
  | .exit _ => False
  | _ => match resAs G st rs with
    | some vs => (match pub st.σ 8 (resPV vs) with
      | some (p, _) => p = r
      | none => False)
    | none => False

def argsAK {α : Sort _} : Nat → List AV → T → (T → α) → α
  | _, [], t, K => K t
  | i, a :: l, t, K => forceA a fun a' => T.setK tdepth t i a' fun t' => argsAK (i + 1) l t' K

/-- The end of a function that runs on its caller's store. -/
def retI (rs : List RRes) (K : AV → Store → Nat → Prop) (e : Ex) (st : St) : Prop :=
  match e with
  | .exit _ => False
  | _ => match st with
    | ⟨tm, σ, nx, nt⟩ => match resAs G ⟨tm, σ, nx, nt⟩ rs with
      | some vs => forceA (resPV vs) fun v => K v σ nx
      | none => False

/-- The end of an iterator. -/
def retM (K : AV → Store → Nat → Prop) (e : Ex) (st : St) : Prop :=
  match e with
  | .exit _ => False
  | _ => match st with
    | ⟨tm, σ, nx, _⟩ => forceA (tm.get tdepth markT) fun v => K v σ nx

/-- What a function does on its caller's store, said outright. -/
abbrev RunI := List AV → Store → Nat → Option (AV × Store × Nat)

def extH (r : RunI) (args : List AV) (σ : Store) (nx : Nat) (K : AV → Store → Nat → Prop) : Prop :=
  match r args σ nx with
  | some (v, σ', nx') => K v σ' nx'
  | none => False

/-- The functions and the iterators of the tables, run on their callers' stores, so deep; some are said outright. -/
def envD (ext : Nat → Option RunI) (tab tabI : Nat → Option RFn) : Nat → Env
  | 0 => ⟨fun _ => none, fun _ => none, none⟩
  | d + 1 => ⟨fun g => match ext g with
      | some r => some (extH r)
      | none => match tab g with
        | some c => some fun args σ nx K => (match args.length == c.nparams with
          | true => argsAK 0 args .nil fun tm => aw G Ok c.body false (envD ext tab tabI d) (retI G c.res K) ⟨tm, σ, nx, c.ntmps⟩
          | false => False)
        | none => none,
    fun g => match tabI g with
      | some c => some fun b h args σ nx K => (match args.length == c.nparams with
        | true => argsAK 0 args .nil fun tm => T.setK tdepth tm markT (.mark 0) fun tm' => aw G Ok c.body false ⟨(envD ext tab tabI d).inl, (envD ext tab tabI d).itr, some (b, h)⟩ (retM K) ⟨tm', σ, nx, c.ntmps⟩
        | false => False)
      | none => none, none⟩

def fnW (ext : Nat → Option RunI) (tab tabI : Nat → Option RFn) (d : Nat) (f : RFn) (args : List PV) (r : PV) : Prop := argsK 0 args .nil fun tm => aw G Ok f.body true (envD G Ok ext tab tabI d) (retP G f.res r) { tm := tm, σ := [], nx := 0, nt := f.ntmps }

end
end Go.Ab
