/- A part of the proof: the texts Ab2, Ab3, Ab4, Ab5, Ab6, Ab7, Ab8, Ab9, Ab10, Ab11, Ab12, Ab13. Under: nothing. -/
import Derived.Test.YtomfaadmmchdcaaGreatDoorG00
import Derived.Laws.Cells
import Derived.Laws.Entries
import Derived.Lib.FrozenHead
import Derived.Laws.StructEq
import Derived.Great.FillDense
import Derived.ChangeKeysEq
set_option linter.unusedVariables false
namespace Go.Ab
def a6O (f:AV→Option (PV × List Nat)):List AV→Option (List PV × List Nat)
 | []=>some ([],[])
 | a::l=>match f a with
   | some (p,n)=>match a6O f l with
     | some (ps,m)=>some (p::ps,n++m)
     | none=>none
   | none=>none
def b3i (f:AV→Option (PV × List Nat)):List (List AV)→Option (List (List PV) × List Nat)
 | []=>some ([],[])
 | a::l=>match a6O f a with
   | some (p,n)=>match b3i f l with
     | some (ps,m)=>some (p::ps,n++m)
     | none=>none
   | none=>none
def pub (σ:b7):Nat→AV→Option (PV × List Nat)
 | _,.pv p=>some (p,[])
 | _,.emp es=>some (.emp es,[])
 | _,.fsl es rows=>some (.sl es rows,[])
 | 0,_=>none
 | k+1,.agg cs=>match a6O (pub σ k) cs with | some (ps,n)=>some (.agg ps,n) | none=>none
 | k+1,.o0 cs=>match a6O (pub σ k) cs with | some (ps,n)=>some (.o0 ps,n) | none=>none
 | k+1,.func fn a b=>match a6O (pub σ k) a with
   | some (ps,n)=>match a6O (pub σ k) b with
     | some (qs,m)=>some (.func fn ps qs,n++m)
     | none=>none
   | none=>none
 | k+1,.own b i n=>match find σ b with
   | some (.arr es rows _)=>some (.sl es ((rows.drop i).take n),[b])
   | some (.box es rows _)=>match b3i (pub σ k) ((rows.drop i).take n) with
     | some (ps,m)=>some (.sl es ps,b::m)
     | none=>none
   | _=>none
 | k+1,.ptr b i j=>match find σ b with
   | some o=>match o.row? i with
     | some row=>match a6O (pub σ k) (row.drop j) with
       | some (ps,m)=>some (.ref ps,b::m)
       | none=>none
     | none=>none
   | none=>none
 | _,_=>none
def d9.C3:d9→d9
 | .arr e r _=>.arr e r true
 | .box e r _=>.box e r true
 | o=>o
def Q7:b7→Nat→Option d9→b7
 | [],b,x=>[(b,x)]
 | (k,o)::s,b,x=>match k==b with
   | true=>(k,x)::s
   | false=>(k,o)::Q7 s b x
def m0:b7→List (Nat × Option d9)→b7
 | s,[]=>s
 | s,(b,x)::l=>m0 (Q7 s b x) l
def A6:b7→List Nat→b7
 | s,[]=>s
 | s,b::l=>match find s b with
   | some o=>A6 (Q7 s b (some o.C3)) l
   | none=>A6 s l
abbrev Own:=List (Nat × Nat)
def c3Q (own:Own) (i j:Nat):Bool:=
 match own with
 | []=>false
 | (a,b)::l=>(a==i&&b==j)||c3Q l i j
def a8Y (own:Own) (i:Nat):(nm j:Nat)→List PV→List AV × List (Nat × Option d9)
 | _,_,[]=>([],[])
 | nm,j,p::l=>
   match c3Q own i j,p with
   | true,.sl es rows=>let (a,b):=a8Y own i (nm+1) (j+1) l;(.own nm 0 rows.length::a,(nm,some (.arr es rows false))::b)
   | _,_=>let (a,b):=a8Y own i nm (j+1) l;(.pv p::a,b)
def c0o (own:Own) (i nm:Nat) (p:PV):AV × List (Nat × Option d9):=
 match p with
 | .agg ps=>let (a,b):=a8Y own i nm 0 ps;(.agg a,b)
 | p=>match a8Y own i nm 0 [p] with
   | ([a],b)=>(a,b)
   | _=>(.pv p,[])
def b7H (own:Own):(i nm:Nat)→List PV→List AV × List (Nat × Option d9)
 | _,_,[]=>([],[])
 | i,nm,p::l=>let (a,u):=c0o own i nm p;let (as,us):=b7H own (i+1) (nm+u.length) l;(a::as,u++us)
def imp (own:Own) (nm:Nat) (r:PV):AV × List (Nat × Option d9):=
 match own with
 | []=>(.pv r,[])
 | _=>match r with
   | .o0 ps=>let (a,u):=b7H own 0 nm ps;(.o0 a,u)
   | p=>c0o own 0 nm p
def S6:AV→Option (Nat × List AV × List AV)
 | .func (.func g) a b=>some (g,a,b)
 | .pv (.func (.func g) a b)=>some (g,a.map .pv,b.map .pv)
 | _=>none
structure Rec where
 rd:List Nat
 sl:List Nat
 wr:List Nat
 pre:Nat
 ins:Option (Nat × List UInt8):=none
def meets (a b:List Nat):Bool:=a.any fun x=>b.any fun y=>x==y
def Rec.a4S (a b:Rec):Bool:=match a.ins with
 | none=>false
 | some (m,k)=>b.rd.any (·==m)||b.sl.any (·==m)||b.wr.any (·==m)||(match b.ins with | some (m',k')=>m==m'&&k==k' | none=>false)
def Rec.a1Z (a b:Rec):Bool:=meets a.wr b.rd||meets a.wr b.sl||meets a.wr b.wr||meets a.rd b.wr||meets a.sl b.wr||a.a4S b||b.a4S a
def b2w (ev:RA→AV) (op:ROp) (e:l7) (pre:Nat):Rec:=match op with
 | .insert m k _=>(match ev m,ev k with
   | .a0u b,.pv (.str s)=>{rd:=[],sl:=[],wr:=[],pre:=pre,ins:=some (b,s)}
   | _,_=>{rd:=e.rd,sl:=[],wr:=e.up.map (·.1),pre:=pre})
 | _=>{rd:=e.rd,sl:=[],wr:=e.up.map (·.1),pre:=pre}
def a2X (r:Rec):Nat→List Rec→Bool
 | _,[]=>true
 | i,x::l=>(!x.a1Z r||r.pre.testBit i)&&a2X r (i+1) l
def e9:List Rec→List Rec→Bool
 | _,[]=>true
 | done,r::l=>a2X r 0 done&&e9 (done++[r]) l
def g9:Nat:=4
mutual
def C0 {α:Sort _}:AV→(AV→α)→α
 | .pv (.int k n),K=>K (.pv (.int k n))
 | .pv (.bool b),K=>K (.pv (.bool b))
 | .pv p,K=>K (.pv p)
 | .emp es,K=>K (.emp es)
 | .fsl es rows,K=>K (.fsl es rows)
 | .ptr b i j,K=>D3 b fun b'=>D3 j fun j'=>K (.ptr b' i j')
 | .own b i n,K=>D3 b fun b'=>K (.own b' i n)
 | .a0u b,K=>D3 b fun b'=>K (.a0u b')
 | .agg cs,K=>a5u cs fun cs'=>K (.agg cs')
 | .o0 cs,K=>a5u cs fun cs'=>K (.o0 cs')
 | .func fn a b,K=>a5u a fun a'=>a5u b fun b'=>K (.func fn a' b')
 | .O5,K=>K .O5
 | .mark k,K=>D3 k fun k'=>K (.mark k')
 | .yld b,K=>D3 b fun b'=>K (.yld b')
 | .undef,K=>K .undef
def a5u {α:Sort _}:List AV→(List AV→α)→α
 | [],K=>K []
 | a::l,K=>C0 a fun a'=>a5u l fun l'=>K (a'::l')
def D3 {α:Sort _}:Nat→(Nat→α)→α
 | 0,K=>K 0
 | n+1,K=>K (n+1)
end
def b1R {α:Sort _}:List (List AV)→(List (List AV)→α)→α
 | [],K=>K []
 | a::l,K=>a5u a fun a'=>b1R l fun l'=>K (a'::l')
def b4n {α:Sort _}:List (List UInt8 × AV)→(List (List UInt8 × AV)→α)→α
 | [],K=>K []
 | (a,x)::l,K=>C0 x fun x'=>b4n l fun l'=>K ((a,x')::l')
def b1Q {α:Sort _}:d9→(d9→α)→α
 | .arr e r s,K=>K (.arr e r s)
 | .box e r s,K=>b1R r fun r'=>K (.box e r' s)
 | .map l,K=>b4n l fun l'=>K (.map l')
def T.a7t {α:Sort _}:Nat→T→Nat→AV→(T→α)→α
 | 0,_,_,v,K=>K (.leaf v)
 | d+1,.node l r,n,v,K=>match n % 2 with
   | 0=>T.a7t d l (n / 2) v fun l'=>K (.node l' r)
   | _=>T.a7t d r (n / 2) v fun r'=>K (.node l r')
 | d+1,_,n,v,K=>match n % 2 with
   | 0=>T.a7t d .nil (n / 2) v fun l'=>K (.node l' .nil)
   | _=>T.a7t d .nil (n / 2) v fun r'=>K (.node .nil r')
def upK {α:Sort _}:b7→Nat→Option d9→(b7→α)→α
 | [],b,x,K=>(match x with | some o'=>b1Q o' fun o''=>K [(b,some o'')] | none=>K [(b,none)])
 | (k,o)::s,b,x,K=>match k==b with
   | true=>(match x with | some o'=>b1Q o' fun o''=>K ((k,some o'')::s) | none=>K ((k,none)::s))
   | false=>upK s b x fun s'=>K ((k,o)::s')
def a2s {α:Sort _}:b7→List (Nat × Option d9)→(b7→α)→α
 | s,[],K=>K s
 | s,(b,x)::l,K=>D3 b fun b'=>upK s b' x fun s'=>a2s s' l K
def a3w {α:Sort _}:b7→List Nat→(b7→α)→α
 | s,[],K=>K s
 | s,b::l,K=>match find s b with
   | some o=>upK s b (some o.C3) fun s'=>a3w s' l K
   | none=>a3w s l K
mutual
def b6K:AV→List Nat
 | .ptr b _ _=>[b]
 | .own b _ _=>[b]
 | .a0u b=>[b]
 | .agg cs=>a8f cs
 | .o0 cs=>a8f cs
 | .func _ a b=>a8f a++a8f b
 | _=>[]
def a8f:List AV→List Nat
 | []=>[]
 | a::l=>b6K a++a8f l
end
def c0B:List (List AV)→List Nat
 | []=>[]
 | r::l=>a8f r++c0B l
def c0A:List (List UInt8 × AV)→List Nat
 | []=>[]
 | (_,v)::l=>b6K v++c0A l
def c4H:d9→List Nat
 | .arr _ _ _=>[]
 | .box _ rows _=>c0B rows
 | .map ents=>c0A ents
def reach (σ:b7):Nat→List Nat→List Nat→List Nat
 | 0,_,acc=>acc
 | _,[],acc=>acc
 | n+1,b::todo,acc=>match acc.any (·==b) with
   | true=>reach σ n todo acc
   | false=>match find σ b with
     | none=>reach σ n todo acc
     | some o=>reach σ n (c4H o++todo) (acc++[b])
def H5:List Nat→Nat→Nat→Option Nat
 | [],_,_=>none
 | x::l,b,k=>match x==b with | true=>some k | false=>H5 l b (k+1)
mutual
def L8 (f:Nat→Option Nat):AV→AV
 | .pv p=>.pv p
 | .emp es=>.emp es
 | .fsl es rows=>.fsl es rows
 | .ptr b i j=>match f b with | some n=>.ptr n i j | none=>.undef
 | .own b i n=>match f b with | some m=>.own m i n | none=>.undef
 | .a0u b=>match f b with | some n=>.a0u n | none=>.undef
 | .agg cs=>.agg (b4J f cs)
 | .o0 cs=>.o0 (b4J f cs)
 | .func fn a b=>.func fn (b4J f a) (b4J f b)
 | .O5=>.O5
 | .yld b=>match f b with | some n=>.yld n | none=>.undef
 | .mark k=>.mark k
 | .undef=>.undef
def b4J (f:Nat→Option Nat):List AV→List AV
 | []=>[]
 | a::l=>L8 f a::b4J f l
end
def b0r (f:Nat→Option Nat):d9→d9
 | .arr e r s=>.arr e r s
 | .box e r s=>.box e (r.map (b4J f)) s
 | .map l=>.map (l.map fun (k,v)=>(k,L8 f v))
def a7b (tm:T):List Nat→List Nat
 | []=>[]
 | t::l=>b6K (tm.get d7 t)++a7b tm l
def a2z (f:Nat→Option Nat) (tm:T):List Nat→T→T
 | [],acc=>acc
 | t::l,acc=>a2z f tm l (acc.set d7 t (L8 f (tm.get d7 t)))
def a3V (f:Nat→Option Nat) (σ:b7):List Nat→Nat→b7
 | [],_=>[]
 | b::l,k=>(k,match find σ b with | some o=>some (b0r f o) | none=>none)::a3V f σ l (k+1)
def b0q:Nat:=4000
def a0q (live:List Nat) (st:St):List Nat:=reach st.σ b0q (a7b st.tm live) []
def norm (live:List Nat) (st:St):St:=
 {tm:=a2z (fun b=>H5 (a0q live st) b 0) st.tm live .nil,σ:=a3V (fun b=>H5 (a0q live st) b 0) st.σ (a0q live st) 0,nx:=(a0q live st).length,nt:=st.nt}
def a8U {α:Sort _}:List Nat→(List Nat→α)→α
 | [],K=>K []
 | b::l,K=>D3 b fun b'=>a8U l fun l'=>K (b'::l')
def b2c {α:Sort _} (f:Nat→Option Nat) (tm:T):List Nat→T→(T→α)→α
 | [],acc,K=>K acc
 | t::l,acc,K=>C0 (L8 f (tm.get d7 t)) fun v=>T.a7t d7 acc t v fun acc'=>b2c f tm l acc' K
def b0k {α:Sort _} (f:Nat→Option Nat) (σ:b7):List Nat→Nat→(b7→α)→α
 | [],_,K=>K []
 | b::l,k,K=>D3 k fun k'=>match find σ b with
   | some o=>b1Q (b0r f o) fun o'=>b0k f σ l (k'+1) fun s=>K ((k',some o')::s)
   | none=>b0k f σ l (k'+1) fun s=>K ((k',none)::s)
def a6F {α:Sort _} (live:List Nat) (st:St) (K:St→α):α:=
 match st with
 | ⟨tm,σ,_,nt⟩=>a8U (reach σ b0q (a7b tm live) []) fun ns=>b2c (fun b=>H5 ns b 0) tm live .nil fun tm'=>b0k (fun b=>H5 ns b 0) σ ns 0 fun σ'=>D3 ns.length fun nx'=>K ⟨tm',σ',nx',nt⟩
structure b7s where
 run:List AV→b7→Option (AV × Nat × Nat × List (List PV))
 frame:∀ {args:List AV} {σ σ':b7} {v:AV} {c es:Nat} {rows:List (List PV)},run args σ=some (v,c,es,rows)→find σ' c=find σ c→run args σ'=some (v,c,es,rows)
structure Gl where
 gl:Nat→Option (List PV)
 a9v:Nat→Option b7s
instance:CoeFun Gl fun _=>Nat→Option (List PV):=⟨Gl.gl⟩
section
variable (G:Gl) (Ok:Nat→List PV→Own→PV→Prop)
def St.ev (st:St):RA→AV
 | .t n=>st.tm.get d7 n
 | .c v=>v
 | .f g=>.func (.func g) [] []
 | .g i=>match G i with | some cs=>.pv (.ref cs) | none=>.undef
def D5 (st:St) (dst:Option Nat) (v:AV) (σ:b7):St:=
 match dst with
 | some d=>{st with tm:=st.tm.set d7 d v,σ:=σ}
 | none=>{st with σ:=σ}
def b2t {α:Sort _} (st:St) (dst:Option Nat) (v:AV) (σ:b7) (K:St→α):α:=
 match st with
 | ⟨tm,_,nx,nt⟩=>match dst with
   | some d=>C0 v fun v'=>T.a7t d7 tm d v' fun tm'=>K ⟨tm',σ,nx,nt⟩
   | none=>K ⟨tm,σ,nx,nt⟩
def opW (r:m7) (nm:Nat) (st:St) (K:St→Rec→Prop):Prop:=
 match r.op with
 | .call f args=>match S6 (st.ev G f) with
   | some (g,a,b)=>match G.a9v g with
     | some p=>(match p.run (a++args.map (st.ev G)++b) st.σ,st with
       | some (v,c,es,rows),⟨tm,σ,nx,nt⟩=>D3 c fun c'=>a2s σ [(c',some (.arr es rows false))] fun σ'=>b2t ⟨tm,σ,nx,nt⟩ r.dst v σ' fun st'=>K st' {rd:=[c'],sl:=[],wr:=[c'],pre:=r.pre}
       | none,_=>False)
     | none=>match a6O (pub st.σ 8) (a++args.map (st.ev G)++b) with
       | some (ps,m)=>∃ own res,Ok g ps own res∧(match imp own nm res,st with
         | (v,up),⟨tm,σ,nx,nt⟩=>a3w σ m fun σ₁=>a2s σ₁ up fun σ₂=>b2t ⟨tm,σ,nx,nt⟩ r.dst v σ₂ fun st'=>K st' {rd:=[],sl:=m,wr:=up.map (·.1),pre:=r.pre})
       | none=>False
   | none=>False
 | op=>match st with
   | ⟨tm,σ,nx,nt⟩=>match step σ nm (St.ev G ⟨tm,σ,nx,nt⟩) op with
     | some e=>a2s σ e.up fun σ'=>b2t ⟨tm,σ,nx,nt⟩ r.dst e.v σ' fun st'=>K st' (b2w (St.ev G ⟨tm,σ,nx,nt⟩) op e r.pre)
     | none=>False
def a8Z (r:m7) (nm:Nat) (st:St) (K:St→Rec→Prop):Prop:=
 match r.guard with
 | none=>opW G Ok r nm st K
 | some (t,want)=>match st.ev G (.t t) with
   | .pv (.bool x)=>(match x,want with
     | true,true=>opW G Ok r nm st K
     | false,false=>opW G Ok r nm st K
     | _,_=>match st with | ⟨tm,σ,nx,nt⟩=>b2t ⟨tm,σ,nx,nt⟩ r.dst (.o0 []) σ fun st'=>K st' {rd:=[],sl:=[],wr:=[],pre:=r.pre})
   | .o0 []=>(match st with | ⟨tm,σ,nx,nt⟩=>b2t ⟨tm,σ,nx,nt⟩ r.dst (.o0 []) σ fun st'=>K st' {rd:=[],sl:=[],wr:=[],pre:=r.pre})
   | _=>False
def b4r (v:AV) (want:Bool):Bool:=match v with
 | .pv (.bool x)=>(match x,want with | true,true=>true | false,false=>true | _,_=>false)
 | _=>false
def b5J (draw:Bool):List m7→Nat→List Rec→St→(St→Prop)→Prop
 | [],_,recs,st,K=>match draw with
   | true=>(match e9 [] recs with | true=>K st | false=>False)
   | false=>K st
 | r::l,nm,recs,st,K=>D3 nm fun nm'=>a8Z G Ok r nm' st fun st' rec=>b5J draw l (nm'+g9) (match draw with | true=>recs++[rec] | false=>[]) st' K
abbrev c5q:=Nat→Option (List AV→b7→Nat→(AV→b7→Nat→Prop)→Prop)
abbrev b8j:=List AV→b7→Nat→(AV→b7→Nat→Nat→Prop)→Prop
abbrev c5r:=Nat→Option (Nat→b8j→List AV→b7→Nat→(AV→b7→Nat→Prop)→Prop)
structure Env where
 inl:c5q
 itr:c5r
 yld:Option (Nat × b8j)
 n0:Option Nat
def L2:Nat:=1023
def b3p (h:List AV→b7→Nat→(AV→b7→Nat→Prop)→Prop) (args:List AV) (dst:Option Nat) (st:St) (K:St→Prop):Prop:=
 match st with
 | ⟨tm,σ,nx,nt⟩=>h args σ nx fun v σ' nx'=>b2t ⟨tm,σ',nx',nt⟩ dst v σ' K
def b9R (h:b8j) (args:List AV) (dst:Option Nat) (st:St) (K:St→Prop):Prop:=
 match st with
 | ⟨tm,σ,nx,nt⟩=>match tm.get d7 L2 with
   | .mark 0=>h args σ nx fun v σ' nx' pd=>D3 pd fun pd'=>T.a7t d7 tm L2 (.mark pd') fun tm'=>b2t ⟨tm',σ',nx',nt⟩ dst v σ' K
   | _=>False
def a9Z (E:Env) (r:m7) (nm:Nat) (st:St) (K:St→Prop):Prop:=
 match r.op with
 | .call f args=>match st.ev G f with
   | .yld b=>(match E.yld,r.guard with
     | some (b',h),none=>(match b'==b with
       | true=>b9R h (args.map (st.ev G)) r.dst st K
       | false=>False)
     | _,_=>False)
   | fv=>match S6 fv with
     | some (g,a,b)=>(match E.inl g with
       | some h=>(match r.guard with
         | none=>b3p h (a++args.map (st.ev G)++b) r.dst st K
         | some (t,want)=>match b4r (st.ev G (.t t)) want with
           | true=>b3p h (a++args.map (st.ev G)++b) r.dst st K
           | false=>a8Z G Ok r nm st fun st' _=>K st')
       | none=>a8Z G Ok r nm st fun st' _=>K st')
     | none=>a8Z G Ok r nm st fun st' _=>K st'
 | _=>a8Z G Ok r nm st fun st' _=>K st'
def a7s (E:Env):List m7→Nat→St→(St→Prop)→Prop
 | [],_,st,K=>K st
 | r::l,nm,st,K=>D3 nm fun nm'=>a9Z G Ok E r nm' st fun st'=>a7s E l (nm'+g9) st' K
inductive Ex where
 | normal
 | exit (id:Nat)
 | ret
 deriving DecidableEq,Inhabited
def Ex.then (next:St→Prop) (Q:Ex→St→Prop):Ex→St→Prop
 | .normal,st=>next st
 | e,st=>Q e st
def Ex.inBlock (id:Nat) (Q:Ex→St→Prop):Ex→St→Prop
 | .exit i,st=>match i==id with | true=>Q .normal st | false=>Q (.exit i) st
 | e,st=>Q e st
def b5f (v:AV) (A B:Prop):Prop:=
 match v with
 | .pv (.bool b)=>(match b with | true=>A | false=>B)
 | .O5=>A∧B
 | _=>False
def b0T {α:Sort _}:List Nat→List AV→T→(T→α)→α
 | p::ps,a::as,tm,K=>C0 a fun a'=>T.a7t d7 tm p a' fun tm'=>b0T ps as tm' K
 | _,_,tm,K=>K tm
def c5A (K:AV→b7→Nat→Nat→Prop) (e:Ex) (st:St):Prop:=
 match e,st with
 | .normal,⟨_,σ,nx,_⟩=>K (.pv (.bool true)) σ nx 0
 | .ret,⟨_,σ,nx,_⟩=>K (.pv (.bool false)) σ nx 1
 | .exit i,⟨_,σ,nx,_⟩=>K (.pv (.bool false)) σ nx (i+2)
def c3N (Q:Ex→St→Prop) (tm:T) (nt:Nat) (v:AV) (σ:b7) (nx:Nat):Prop:=
 match v with
 | .mark 0=>Q .normal ⟨tm,σ,nx,nt⟩
 | .mark 1=>Q .ret ⟨tm,σ,nx,nt⟩
 | .mark (k+2)=>Q (.exit k) ⟨tm,σ,nx,nt⟩
 | _=>False
def a5Y (n0:Nat) (live:List Nat) (st:St):List Nat:=List.range n0++(reach st.σ b0q (a7b st.tm live) []).filter (fun b=>Nat.ble n0 b)
def b3H (n0:Nat) (live:List Nat) (st:St):St:=
 {tm:=a2z (fun b=>H5 (a5Y n0 live st) b 0) st.tm (live++[L2]) .nil,σ:=a3V (fun b=>H5 (a5Y n0 live st) b 0) st.σ (a5Y n0 live st) 0,nx:=(a5Y n0 live st).length,nt:=st.nt}
def c0x (n:Nat) (a:AV):Prop:=∀ f:Nat→Option Nat,(∀ b,b<n→f b=some b)→L8 f a=a
inductive Wk (m:Option (Nat × List Nat)):St→St→Prop
 | F9 {s:St} (n0:Nat) (live:List Nat) (h:m=some (n0,live)):Wk m s (b3H n0 live s)
 | tmp {s:St} (t es:Nat) (ht:t<1024) (h:(s.tm.get d7 t).e= .emp es):Wk m s ⟨s.tm.set d7 t (.own s.nx 0 0),Q7 s.σ s.nx (some (.arr es [] false)),s.nx+1,s.nt⟩
 | c6q {s:St} (t es:Nat) (ht:t<1024) (h:(s.tm.get d7 t).e= .emp es):Wk m s ⟨s.tm.set d7 t (.pv (.sl es [])),s.σ,s.nx,s.nt⟩
 | box {s:St} (b i j es' es:Nat) {rows:List (List AV)} {row:List AV} {a:AV} (hb:find s.σ b=some (.box es' rows false)) (hr:rows[i]?=some row) (hj:row[j]?=some a) (h:a.e= .emp es):
  Wk m s ⟨s.tm,Q7 (Q7 s.σ s.nx (some (.arr es [] false))) b (some (.box es' (rows.set i (row.set j (.own s.nx 0 0))) false)),s.nx+1,s.nt⟩
 | c5u {s:St} (b i j es' es:Nat) {rows:List (List AV)} {row:List AV} {a:AV} (hb:find s.σ b=some (.box es' rows false)) (hr:rows[i]?=some row) (hj:row[j]?=some a) (h:a.e= .emp es):
  Wk m s ⟨s.tm,Q7 s.σ b (some (.box es' (rows.set i (row.set j (.pv (.sl es [])))) false)),s.nx,s.nt⟩
def aw:RC→Bool→Env→(Ex→St→Prop)→St→Prop
 | .skip,_,_,Q,st=>Q .normal st
 | .b6 ops draw,_,E,Q,⟨tm,σ,nx,nt⟩=>D3 (nx+g9*ops.length) fun nx'=>(match draw with
   | true=>b5J G Ok true ops nx [] ⟨tm,σ,nx',nt⟩ (Q .normal)
   | false=>a7s G Ok E ops nx ⟨tm,σ,nx',nt⟩ (Q .normal))
 | .seq a b,F9,E,Q,st=>aw a F9 E (Ex.then (aw b F9 E Q) Q) st
 | .cond c a b,F9,E,Q,st=>b5f (st.ev G c) (aw a F9 E Q st) (aw b F9 E Q st)
 | .block id b,F9,E,Q,st=>aw b F9 E (Ex.inBlock id Q) st
 | .loop live b,F9,E,Q,st=>∀ X:St→Prop,(∀ s,(match F9 with | true=>a6F live s (aw b F9 E (Ex.then X Q)) | false=>aw b F9 E (Ex.then X Q) s)→X s)→(∀ s s',Wk (match F9 with | true=>none | false=>(match E.n0 with | some n=>some (n,live) | none=>none)) s s'→X s'→X s)→X st
 | .rng f ps as bd,_,E,Q,⟨tm,σ,nx,nt⟩=>match S6 (St.ev G ⟨tm,σ,nx,nt⟩ f) with
   | some (g,a,b)=>(match E.itr g with
     | some it=>D3 (nx+1) fun nx1=>it nx (fun args σ₁ nx₁ K=>match args.length==ps.length with
      | true=>b0T ps args tm fun tm'=>aw as false ⟨E.inl,fun _=>none,none,none⟩ (Ex.then (aw bd false ⟨E.inl,fun _=>none,none,none⟩ (c5A K)) fun _ _=>False) ⟨tm',σ₁,nx₁,nt⟩
      | false=>False) (a++[.yld nx]++b) σ nx1 (c3N Q tm nt)
     | none=>False)
   | none=>False
 | .exit id,_,_,Q,st=>Q (.exit id) st
 | .scope b,F9,E,Q,st=>aw b F9 E Q st
 | .ret,_,_,Q,st=>Q .ret st
inductive a7M where
 | tmp (t:Nat)
 | cell (t:Nat) (agg:Bool) (n:Nat)
 deriving Inhabited
structure n6 where
 nparams:Nat
 ntmps:Nat
 res:List a7M
 body:RC
 deriving Inhabited
def c0T (st:St):a7M→Option AV
 | .tmp t=>some (st.ev G (.t t))
 | .cell t agg n=>match step st.σ 0 (st.ev G) (.load agg n (.t t)) with | some e=>some e.v | none=>none
def Y3 (st:St):List a7M→Option (List AV)
 | []=>some []
 | r::l=>match c0T G st r with
   | some v=>match Y3 st l with | some vs=>some (v::vs) | none=>none
   | none=>none
def a8B {α:Sort _}:Nat→List PV→T→(T→α)→α
 | _,[],t,K=>K t
 | i,p::l,t,K=>T.a7t d7 t i (.pv p) fun t'=>a8B (i+1) l t' K
def a5d:List AV→AV
 | [v]=>v
 | vs=>.o0 vs
def c5N (rs:List a7M) (r:PV) (e:Ex) (st:St):Prop:=
 match e with
 | .exit _=>False
 | _=>match Y3 G st rs with
   | some vs=>(match pub st.σ 8 (a5d vs) with
     | some (p,_)=>p=r
     | none=>False)
   | none=>False
def a7O {α:Sort _}:Nat→List AV→T→(T→α)→α
 | _,[],t,K=>K t
 | i,a::l,t,K=>C0 a fun a'=>T.a7t d7 t i a' fun t'=>a7O (i+1) l t' K
def b0s (rs:List a7M) (K:AV→b7→Nat→Prop) (e:Ex) (st:St):Prop:=
 match e with
 | .exit _=>False
 | _=>match st with
   | ⟨tm,σ,nx,nt⟩=>match Y3 G ⟨tm,σ,nx,nt⟩ rs with
     | some vs=>C0 (a5d vs) fun v=>K v σ nx
     | none=>False
def c5L (K:AV→b7→Nat→Prop) (e:Ex) (st:St):Prop:=
 match e with
 | .exit _=>False
 | _=>match st with
   | ⟨tm,σ,nx,_⟩=>C0 (tm.get d7 L2) fun v=>K v σ nx
abbrev a2A:=List AV→b7→Nat→Option (AV × b7 × Nat)
def a6c (r:a2A) (args:List AV) (σ:b7) (nx:Nat) (K:AV→b7→Nat→Prop):Prop:=
 match r args σ nx with
 | some (v,σ',nx')=>K v σ' nx'
 | none=>False
def M0 (ext:Nat→Option a2A) (tab x9:Nat→Option n6):Nat→Env
 | 0=>⟨fun _=>none,fun _=>none,none,none⟩
 | d+1=>⟨fun g=>match ext g with
    | some r=>some (a6c r)
    | none=>match tab g with
      | some c=>some fun args σ nx K=>(match args.length==c.nparams with
        | true=>a7O 0 args .nil fun tm=>aw G Ok c.body false ⟨(M0 ext tab x9 d).inl,(M0 ext tab x9 d).itr,none,some nx⟩ (b0s G c.res K) ⟨tm,σ,nx,c.ntmps⟩
        | false=>False)
      | none=>none,
   fun g=>match x9 g with
    | some c=>some fun b h args σ nx K=>(match args.length==c.nparams with
      | true=>a7O 0 args .nil fun tm=>T.a7t d7 tm L2 (.mark 0) fun tm'=>aw G Ok c.body false ⟨(M0 ext tab x9 d).inl,(M0 ext tab x9 d).itr,some (b,h),some nx⟩ (c5L K) ⟨tm',σ,nx,c.ntmps⟩
      | false=>False)
    | none=>none,none,none⟩
def fnW (ext:Nat→Option a2A) (tab x9:Nat→Option n6) (d:Nat) (f:n6) (args:List PV) (r:PV):Prop:=a8B 0 args .nil fun tm=>aw G Ok f.body true (M0 G Ok ext tab x9 d) (c5N G f.res r) {tm:=tm,σ:=[],nx:=0,nt:=f.ntmps}
end
end Go.Ab
namespace Go.Ab
theorem j7 {α:Sort _} (n:Nat) (K:Nat→α):D3 n K=K n:=by cases n <;>rfl
mutual
theorem E3 {α:Sort _}:∀ (v:AV) (K:AV→α),C0 v K=K v
 | .pv p,K=>by cases p <;>simp [C0]
 | .emp _,K=>by simp [C0]
 | .fsl _ rows,K=>by simp [C0]
 | .ptr b i j,K=>by simp [C0,j7]
 | .own b i n,K=>by simp [C0,j7]
 | .a0u b,K=>by simp [C0,j7]
 | .agg cs,K=>by simp only [C0];exact a2Y cs _
 | .o0 cs,K=>by simp only [C0];exact a2Y cs _
 | .func fn a b,K=>by simp only [C0];rw [a2Y a,a2Y b]
 | .O5,K=>by simp [C0]
 | .mark k,K=>by simp [C0,j7]
 | .yld b,K=>by simp [C0,j7]
 | .undef,K=>by simp [C0]
theorem a2Y {α:Sort _}:∀ (l:List AV) (K:List AV→α),a5u l K=K l
 | [],K=>by simp [a5u]
 | a::l,K=>by simp only [a5u];rw [E3 a,a2Y l]
end
theorem b3w {α:Sort _}:∀ (l:List (List AV)) (K:List (List AV)→α),b1R l K=K l
 | [],K=>by simp [b1R]
 | a::l,K=>by simp only [b1R];rw [a2Y a,b3w l]
theorem b3v {α:Sort _}:∀ (l:List (List UInt8 × AV)) (K:List (List UInt8 × AV)→α),b4n l K=K l
 | [],_=>rfl
 | (a,x)::l,K=>by simp only [b4n,E3];rw [b3v l]
theorem a9W {α:Sort _} (o:d9) (K:d9→α):b1Q o K=K o:=by
 cases o <;>simp [b1Q,b3w,b3v]
theorem Z3 {α:Sort _}:∀ (d:Nat) (t:T) (n:Nat) (v:AV) (K:T→α),T.a7t d t n v K=K (T.set d t n v)
 | 0,t,n,v,K=>by cases t <;>simp [T.a7t,T.set]
 | d+1,t,n,v,K=>by
   cases t with
   | node l r=>
     simp only [T.a7t,T.set,T.l,T.r]
     rcases Nat.mod_two_eq_zero_or_one n with h | h <;>simp only [h] <;>rw [Z3 d]
   | nil=>
     simp only [T.a7t,T.set,T.l,T.r]
     rcases Nat.mod_two_eq_zero_or_one n with h | h <;>simp only [h] <;>rw [Z3 d]
   | leaf x=>
     simp only [T.a7t,T.set,T.l,T.r]
     rcases Nat.mod_two_eq_zero_or_one n with h | h <;>simp only [h] <;>rw [Z3 d]
theorem b7o {α:Sort _}:∀ (s:b7) (b:Nat) (x:Option d9) (K:b7→α),upK s b x K=K (Q7 s b x)
 | [],b,x,K=>by cases x <;>simp [upK,Q7,a9W]
 | (k,o)::s,b,x,K=>by
   simp only [upK,Q7]
   cases k==b
   ·simp [b7o s]
   ·cases x <;>simp [a9W]
theorem H0 {α:Sort _}:∀ (l:List (Nat × Option d9)) (s:b7) (K:b7→α),a2s s l K=K (m0 s l)
 | [],s,K=>by simp [a2s,m0]
 | (b,x)::l,s,K=>by simp only [a2s,m0,j7,b7o];rw [H0 l]
theorem a2i {α:Sort _}:∀ (l:List Nat) (s:b7) (K:b7→α),a3w s l K=K (A6 s l)
 | [],s,K=>by simp [a3w,A6]
 | b::l,s,K=>by
   simp only [a3w,A6]
   cases find s b with
   | none=>simp only;rw [a2i l]
   | some o=>simp only [b7o];rw [a2i l]
theorem I3 {α:Sort _} (st:St) (dst:Option Nat) (v:AV) (σ:b7) (K:St→α):b2t st dst v σ K=K (D5 st dst v σ):=by
 obtain ⟨tm,s,nx,nt⟩:=st
 cases dst <;>simp [b2t,D5,E3,Z3]
theorem a7V {α:Sort _}:∀ (l:List Nat) (K:List Nat→α),a8U l K=K l
 | [],K=>rfl
 | b::l,K=>by simp only [a8U,j7];rw [a7V l]
theorem b0l {α:Sort _} (f:Nat→Option Nat) (tm:T):∀ (l:List Nat) (acc:T) (K:T→α),b2c f tm l acc K=K (a2z f tm l acc)
 | [],acc,K=>rfl
 | t::l,acc,K=>by simp only [b2c,a2z,E3,Z3];rw [b0l f tm l]
theorem a7d {α:Sort _} (f:Nat→Option Nat) (σ:b7):∀ (l:List Nat) (k:Nat) (K:b7→α),b0k f σ l k K=K (a3V f σ l k)
 | [],k,K=>rfl
 | b::l,k,K=>by
   simp only [b0k,a3V,j7]
   cases find σ b with
   | none=>simp only;rw [a7d f σ l]
   | some o=>simp only [a9W];rw [a7d f σ l]
theorem a6G {α:Sort _} (live:List Nat) (st:St) (K:St→α):a6F live st K=K (norm live st):=by
 obtain ⟨tm,σ,nx,nt⟩:=st
 simp only [a6F,a7V,b0l,a7d,j7]
 rfl
theorem l6:∀ (s:b7) (b:Nat) (x:Option d9) (b':Nat),find (Q7 s b x) b'=if b'=b then x else find s b'
 | [],b,x,b'=>by
   simp only [Q7,find]
   by_cases h:b'=b
   ·subst h;simp
   ·have:(b==b')=false:=by simp;exact fun e=>h e.symm
    simp [this,h]
 | (k,o)::s,b,x,b'=>by
   simp only [Q7]
   by_cases hk:k=b
   ·subst hk
    simp only [beq_self_eq_true,find]
    by_cases h:b'=k
    ·subst h;simp
    ·have:(k==b')=false:=by simp;exact fun e=>h e.symm
     simp [this,h]
   ·have hkb:(k==b)=false:=by simpa using hk
    simp only [hkb,find]
    rw [l6 s]
    by_cases h:b'=b
    ·subst h
     have:(k==b')=false:=by simpa using hk
     simp [this]
    ·simp [h]
theorem a0N:∀ (m:List Nat) (s:b7) (b:Nat),find (A6 s m) b=(find s b).map fun o=>if b ∈ m then o.C3 else o
 | [],s,b=>by simp [A6]
 | k::m,s,b=>by
   simp only [A6]
   cases hk:find s k with
   | none=>
     simp only
     rw [a0N m]
     by_cases h:b=k
     ·subst h;simp [hk]
     ·simp [h]
   | some o=>
     simp only
     rw [a0N m,l6]
     by_cases h:b=k
     ·subst h
      simp only [if_true,hk,Option.map_some,List.mem_cons,true_or]
      congr 1
      by_cases hm:b ∈ m
      ·simp only [hm,if_true];cases o <;>rfl
      ·simp [hm]
     ·simp [h]
theorem H4:∀ (d:Nat) (t:T) (n m:Nat) (v:AV),T.get d (T.set d t n v) m=if m % 2 ^ d=n % 2 ^ d then v else T.get d t m
 | 0,t,n,m,v=>by simp [T.set,T.get,Nat.mod_one]
 | d+1,t,n,m,v=>by
   have hmod:∀ x:Nat,x % 2 ^ (d+1)=x % 2+2*(x / 2 % 2 ^ d):=by
    intro x;rw [Nat.pow_succ,Nat.mul_comm,Nat.mod_mul]
   have hg:∀ (s:T),T.get (d+1) s m=match m % 2 with | 0=>T.get d s.l (m / 2) | _=>T.get d s.r (m / 2):=by
    intro s
    cases s with
    | node l r=>rfl
    | nil=>simp only [T.l,T.r,T.get];split <;>(cases d <;>rfl)
    | leaf x=>simp only [T.l,T.r,T.get];split <;>(cases d <;>rfl)
   rw [hmod m,hmod n,hg t]
   rcases Nat.mod_two_eq_zero_or_one n with hn | hn <;>rcases Nat.mod_two_eq_zero_or_one m with hm | hm
   ·have e:T.set (d+1) t n v= .node (T.set d t.l (n / 2) v) t.r:=by simp only [T.set,hn]
    rw [e,hg,hm,hn]
    show T.get d (T.set d t.l (n / 2) v) (m / 2)=_
    rw [H4 d]
    by_cases h:m / 2 % 2 ^ d=n / 2 % 2 ^ d
    ·rw [if_pos h,if_pos (by omega)]
    ·rw [if_neg h,if_neg (by omega)];rfl
   ·have e:T.set (d+1) t n v= .node (T.set d t.l (n / 2) v) t.r:=by simp only [T.set,hn]
    rw [e,hg,hm,hn,if_neg (by omega)]
    rfl
   ·have e:T.set (d+1) t n v= .node t.l (T.set d t.r (n / 2) v):=by simp only [T.set,hn]
    rw [e,hg,hm,hn,if_neg (by omega)]
    rfl
   ·have e:T.set (d+1) t n v= .node t.l (T.set d t.r (n / 2) v):=by simp only [T.set,hn]
    rw [e,hg,hm,hn]
    show T.get d (T.set d t.r (n / 2) v) (m / 2)=_
    rw [H4 d]
    by_cases h:m / 2 % 2 ^ d=n / 2 % 2 ^ d
    ·rw [if_pos h,if_pos (by omega)]
    ·rw [if_neg h,if_neg (by omega)];rfl
theorem a8D {a b:Nat}:Nat.blt a b=true↔a<b:=by rw [Nat.blt_eq]
theorem a2W {a b:Nat}:Nat.blt a b=false↔b≤a:=by
 rw [← Bool.not_eq_true,Nat.blt_eq];omega
theorem b1Z:∀ k:List UInt8,ltB k k=false
 | []=>rfl
 | a::l=>by
   have h:Nat.blt a.toNat a.toNat=false:=a2W.2 (Nat.le_refl _)
   simp only [ltB,h];exact b1Z l
theorem b3F:∀ k k':List UInt8,k≠k'→ltB k k'=false→ltB k' k=true
 | [],[],h,_=>absurd rfl h
 | _::_,[],_,_=>rfl
 | [],_::_,_,h=>by simp [ltB] at h
 | a::l,b::m,h,hl=>by
   simp only [ltB] at hl ⊢
   cases h1:Nat.blt a.toNat b.toNat with
   | true=>rw [h1] at hl;cases hl
   | false=>
     rw [h1] at hl
     simp only at hl
     cases h2:Nat.blt b.toNat a.toNat with
     | true=>rfl
     | false=>
       rw [h2] at hl
       simp only at hl ⊢
       have e:a=b:=by
        have e1:=a2W.1 h1
        have e2:=a2W.1 h2
        exact UInt8.toNat_inj.1 (by omega)
       subst e
       exact b3F l m (fun e=>h (by rw [e])) hl
theorem b0j:∀ a b c:List UInt8,ltB a b=true→ltB b c=true→ltB a c=true
 | _,[],_,h,_=>by cases ‹List UInt8› <;>simp [ltB] at h
 | _,_::_,[],_,h=>by simp [ltB] at h
 | [],_::_,_::_,_,_=>rfl
 | x::l,y::m,z::n,h1,h2=>by
   simp only [ltB] at h1 h2 ⊢
   cases a1:Nat.blt x.toNat y.toNat with
   | true=>
     have b1:=a8D.1 a1
     have b2:y.toNat≤z.toNat:=by
      cases a2:Nat.blt y.toNat z.toNat with
      | true=>have:=a8D.1 a2;omega
      | false=>
        rw [a2] at h2
        simp only at h2
        cases a3:Nat.blt z.toNat y.toNat with
        | true=>rw [a3] at h2;cases h2
        | false=>exact a2W.1 a3
     have:Nat.blt x.toNat z.toNat=true:=a8D.2 (by omega)
     rw [this]
   | false=>
     rw [a1] at h1
     simp only at h1
     cases a2:Nat.blt y.toNat x.toNat with
     | true=>rw [a2] at h1;cases h1
     | false=>
       rw [a2] at h1
       simp only at h1
       have e1:=a2W.1 a1
       have e2:=a2W.1 a2
       have e:x.toNat=y.toNat:=by omega
       rw [e]
       cases a3:Nat.blt y.toNat z.toNat with
       | true=>rfl
       | false=>
         rw [a3] at h2
         simp only at h2 ⊢
         cases a4:Nat.blt z.toNat y.toNat with
         | true=>rw [a4] at h2;cases h2
         | false=>
           rw [a4] at h2
           simp only at h2 ⊢
           exact b0j l m n h1 h2
theorem b0i {a b:List UInt8} (h:ltB a b=true):ltB b a=false:=by
 cases h':ltB b a with
 | false=>rfl
 | true=>have:=b0j _ _ _ h h';rw [b1Z] at this;cases this
theorem b4t (k:List UInt8) (v:AV) (k':List UInt8) (v':AV) (h:ltB k k'=true):∀ l:List (List UInt8 × AV),W5 k v (W5 k' v' l)=W5 k' v' (W5 k v l)
 | []=>by simp [W5,h,b0i h]
 | (a,x)::l=>by
   simp only [W5]
   cases h1:ltB k' a with
   | true=>
     have h2:ltB k a=true:=b0j _ _ _ h h1
     simp [W5,h,h2,h1,b0i h]
   | false=>
     cases h2:ltB k a with
     | true=>simp [W5,h2,h1,b0i h]
     | false=>
       simp only [W5,h1,h2]
       rw [b4t k v k' v' h l]
theorem b8C {k:List UInt8} {v:AV} {k':List UInt8} {v':AV} (h:k≠k') (l:List (List UInt8 × AV)):W5 k v (W5 k' v' l)=W5 k' v' (W5 k v l):=by
 cases h1:ltB k k' with
 | true=>exact b4t k v k' v' h1 l
 | false=>exact (b4t k' v' k v (b3F k k' h h1) l).symm
theorem O6 {k k':List UInt8} {v:AV} (h:k'≠k):∀ l:List (List UInt8 × AV),m9 k' (W5 k v l)=m9 k' l
 | []=>by
   have:(k==k')=false:=by simpa using fun e=>h e.symm
   simp [W5,m9,this]
 | (a,x)::l=>by
   have h1:(k==k')=false:=by simpa using fun e=>h e.symm
   simp only [W5]
   cases ltB k a with
   | true=>simp [m9,h1]
   | false=>simp only [m9];rw [O6 h l]
theorem a5X {k:List UInt8} {v:AV}:∀ l:List (List UInt8 × AV),m9 k l=none→m9 k (W5 k v l)=some v
 | [],_=>by simp [W5,m9]
 | (a,x)::l,h=>by
   simp only [W5]
   simp only [m9] at h
   split at h
   ·cases h
   ·rename_i hne
    cases ltB k a with
    | true=>simp [m9]
    | false=>simp only [m9];rw [if_neg hne];exact a5X l h
end Go.Ab
namespace Go.Ab
open Go.RowKit
def Fz (c:Array Value) (fz:Nat × Nat):Prop:=c.size≤fz.1∨fz.2≤fz.1
def a6k (w:World) (I:v9) (ι:Nat→Option Nat) (σ:b7) (D:Nat→Prop) (x:Value) (v:AV):Prop:=x.oneCell'=true∧e8 w I ι σ D x v
theorem a6k.mono {w w':World} {I I':v9} {ι ι':Nat→Option Nat} {σ σ':b7} {D D':Nat→Prop} (hk:q0 w I ι σ D w' I' ι' σ' D') {v:Value} {p:AV} (h:a6k w I ι σ D v p):a6k w' I' ι' σ' D' v p:=⟨h.1,h.2.mono hk⟩
def D6 (w:World) (I:v9) (ι:Nat→Option Nat) (σ:b7) (D:Nat→Prop) (b:Nat) (o:d9):Prop:=
 (ι b=none∧o.len=0)∨∃ (r:Nat) (c:Array Value) (T:TypeId) (fz:Nat × Nat),ι b=some r∧w.heap[r]?=some (Obj.cells c T fz)∧Fz c fz∧o.len*o.es≤c.size∧
  ∀ i row,o.row? i=some row→row.length=o.es∧∀ j v,row[j]?=some v→∃ x,c[i*o.es+j]?=some x∧a6k w I ι σ D x v
def b3Y (w:World) (I:v9) (ι:Nat→Option Nat) (σ:b7) (D:Nat→Prop) (b:Nat) (o:d9):Prop:=
 match o with
 | .map ents=>∃ (r:Nat) (es:Array MapEntry) (clock:Nat),ι b=some r∧w.heap[r]?=some (Obj.map es clock)∧
  (∀ e ∈ es.toList,∃ k v,e.key= .string ⟨k.toArray⟩∧m9 k ents=some v∧e8 w I ι σ D e.val v)∧∀ k v,m9 k ents=some v→∃ e ∈ es.toList,e.key= .string ⟨k.toArray⟩
 | o=>D6 w I ι σ D b o
theorem e8.e {w:World} {I:v9} {ι:Nat→Option Nat} {σ:b7} {D:Nat→Prop} {v:Value} {a:AV} (h:e8 w I ι σ D v a):e8 w I ι σ D v a.e:=by
 cases a with
 | pv p=>
   cases p with
   | emp es=>cases h with | pv h=>cases h with | emp=>exact .emp es
   | _=>exact h
 | _=>exact h
structure z6 (B:Nat) (w:World) (I:v9) (ι:Nat→Option Nat) (σ:b7) (D:Nat→Prop):Prop where
 bnd:∀ r k,I r k→r<w.heap.size
 dom:∀ b o,find σ b=some o→D b
 inj:∀ b b' o o' r,find σ b=some o→find σ b'=some o'→ι b=some r→ι b'=some r→b=b'
 ge:∀ b o r,find σ b=some o→ι b=some r→B≤r
 sep:∀ b o r k,find σ b=some o→ι b=some r→I r k→o.O3=true∧k<o.len*o.es
 obj:∀ b o,find σ b=some o→b3Y w I ι σ D b o
theorem D6.mono {w w':World} {I I':v9} {ι ι':Nat→Option Nat} {σ σ':b7} {D D':Nat→Prop} (hk:q0 w I ι σ D w' I' ι' σ' D')
 {b:Nat} {o:d9} (hι:ι' b=ι b) (hw:∀ r,ι b=some r→w'.heap[r]?=w.heap[r]?) (h:D6 w I ι σ D b o):D6 w' I' ι' σ' D' b o:=by
 rcases h with ⟨h1,h2⟩ | ⟨r,c,T,fz,h1,h2,h3,h4,h5⟩
 ·exact .inl ⟨hι.trans h1,h2⟩
 ·refine .inr ⟨r,c,T,fz,hι.trans h1,(hw r h1).trans h2,h3,h4,fun i row hr=>⟨(h5 i row hr).1,fun j v hv=>?_⟩⟩
  obtain ⟨x,hx,hrep⟩:=(h5 i row hr).2 j v hv
  exact ⟨x,hx,hrep.mono hk⟩
theorem b3Y.mono {w w':World} {I I':v9} {ι ι':Nat→Option Nat} {σ σ':b7} {D D':Nat→Prop} (hk:q0 w I ι σ D w' I' ι' σ' D')
 {b:Nat} {o:d9} (hι:ι' b=ι b) (hw:∀ r,ι b=some r→w'.heap[r]?=w.heap[r]?) (h:b3Y w I ι σ D b o):b3Y w' I' ι' σ' D' b o:=by
 cases o with
 | arr e r s=>exact D6.mono hk hι hw h
 | box e r s=>exact D6.mono hk hι hw h
 | map ents=>
   obtain ⟨r,es,clock,h1,h2,h3,h4⟩:=h
   exact ⟨r,es,clock,hι.trans h1,(hw r h1).trans h2,fun e he=>let ⟨k,v,a,b,c⟩:=h3 e he;⟨k,v,a,b,c.mono hk⟩,h4⟩
theorem z5.a7f {w:World} {I:v9} {v:Value} {p:PV} (h:z5 w I v p) (hc:(AV.pv p).a5z=true):v.oneCell'=true:=by
 cases h <;>simp_all [AV.a5z,Value.oneCell']
theorem e8.a7f {w:World} {I:v9} {ι:Nat→Option Nat} {σ:b7} {D:Nat→Prop} {v:Value} {p:AV} (h:e8 w I ι σ D v p) (hc:p.a5z=true):v.oneCell'=true:=by
 cases h with
 | pv h=>exact h.a7f hc
 | emp es=>rfl
 | fsl h=>rfl
 | ptr hD h1 h=>exact h1
 | own hD h1 h=>exact h1
 | a0u hD h1 h=>exact h1
 | agg _ _=>simp [AV.a5z] at hc
 | o0 _ _=>simp [AV.a5z] at hc
 | func _ _ _ _=>rfl
 | O5 b=>rfl
 | yld hD h=>obtain ⟨l,_,rfl⟩:=h;rfl
 | mark v k=>simp [AV.a5z] at hc
 | undef v=>simp [AV.a5z] at hc
def AV.a2N:AV→Bool
 | .undef=>true
 | .mark _=>true
 | _=>false
theorem Value.a0o {v:Value} (h:v.oneCell'=true):v.cells=#[v]:=by cases v <;>simp_all [Value.cells,Value.oneCell']
theorem a9Q {w:World} {I:v9} {ι:Nat→Option Nat} {σ:b7} {D:Nat→Prop} {v:Value} {p:AV} (h:e8 w I ι σ D v p) (hu:p.a2N=false):
 v.cells.size=p.cells.length∧∀ (j:Nat) (x:Value) (q:AV),v.cells[j]?=some x→p.cells[j]?=some q→e8 w I ι σ D x q:=by
 have one:∀ {v:Value} {p:AV},e8 w I ι σ D v p→v.cells=#[v]→p.cells=[p]→v.cells.size=p.cells.length∧∀ (j:Nat) (x:Value) (q:AV),v.cells[j]?=some x→p.cells[j]?=some q→e8 w I ι σ D x q:=by
  intro v p h h1 h2
  rw [h1,h2]
  refine ⟨rfl,fun j x q hx hq=>?_⟩
  cases j with
  | zero=>simp at hx hq;rw [← hx,← hq];exact h
  | succ j=>simp at hq
 cases h with
 | pv h=>
   cases h with
   | agg hl h=>
     refine ⟨by simpa [Value.cells,AV.cells] using hl,fun j x q hx hq=>?_⟩
     simp only [AV.cells,List.getElem?_map,Option.map_eq_some_iff] at hq
     obtain ⟨q',hq',rfl⟩:=hq
     exact .pv (h j x q' hx hq')
   | bool b=>exact one (.pv (.bool b)) rfl rfl
   | int k n=>exact one (.pv (.int k n)) rfl rfl
   | str s=>exact one (.pv (.str s)) rfl rfl
   | sl f a b c d e=>exact one (.pv (.sl f a b c d e)) rfl rfl
   | ref f a b c=>exact one (.pv (.ref f a b c)) rfl rfl
   | o0 a b=>exact one (.pv (.o0 a b)) rfl rfl
   | func a b c d=>exact one (.pv (.func a b c d)) rfl rfl
   | nilFunc=>exact one (.pv .nilFunc) rfl rfl
   | emp es=>exact one (.pv (.emp es)) rfl rfl
 | emp es=>exact one (.emp es) rfl rfl
 | fsl h=>exact one (.fsl h) rfl rfl
 | ptr hD h1 h=>exact one (.ptr hD h1 h) (Value.a0o h1) rfl
 | own hD h1 h=>exact one (.own hD h1 h) (Value.a0o h1) rfl
 | a0u hD h1 h=>exact one (.a0u hD h1 h) (Value.a0o h1) rfl
 | agg hl h=>exact ⟨by simpa [Value.cells,AV.cells] using hl,fun j x q hx hq=>h j x q hx hq⟩
 | o0 hl h=>exact one (.o0 hl h) rfl rfl
 | func hl hl' h h'=>exact one (.func hl hl' h h') rfl rfl
 | O5 b=>exact one (.O5 b) rfl rfl
 | yld hD h=>obtain ⟨l,h1,rfl⟩:=h;exact one (.yld hD ⟨l,h1,rfl⟩) rfl rfl
 | mark v k=>simp [AV.a2N] at hu
 | undef v=>simp [AV.a2N] at hu
section
variable {B:Nat} {w w':World} {I:v9} {ι:Nat→Option Nat} {σ:b7} {D:Nat→Prop}
theorem B3 {r o:Nat} (h:w'.heap[r]?=w.heap[r]?):w'.cell? ⟨r,o,none⟩=w.cell? ⟨r,o,none⟩:=by
 simp only [World.cell?,h]
theorem a1D (h:w'.heap=w.heap):q0 w I ι σ D w' I ι σ D:=
 ⟨⟨fun _ _ _ hi hx=>⟨(B3 (by rw [h])).trans hx,hi⟩,fun _ h=>h,fun _ o' _ ho=>⟨o',ho,rfl,rfl,rfl⟩,fun _ c _ fz hr=>⟨c,fz,by rw [h];exact hr,rfl⟩,fun _ _=>rfl⟩,fun _ _ _ hr=>by rw [h];exact hr⟩
theorem z6.heap (hs:z6 B w I ι σ D) (h:w'.heap=w.heap):z6 B w' I ι σ D:=
 ⟨fun r k hi=>by rw [h];exact hs.bnd r k hi,hs.dom,hs.inj,hs.ge,hs.sep,fun b o ho=>(hs.obj b o ho).mono (a1D h) rfl fun r _=>by rw [h]⟩
theorem b1Y (b:Nat):q0 w I ι σ D w I ι (Q7 σ b none) D:=
 ⟨⟨fun _ _ _ hi hx=>⟨hx,hi⟩,fun _ h=>h,fun b' o' _ ho=>by
   rw [l6] at ho
   by_cases e:b'=b
   ·rw [if_pos e] at ho;cases ho
   ·rw [if_neg e] at ho;exact ⟨o',ho,rfl,rfl,rfl⟩,fun _ c _ fz hr=>⟨c,fz,hr,rfl⟩,fun _ _=>rfl⟩,fun _ _ _ h=>h⟩
theorem z6.kill (hs:z6 B w I ι σ D) (b:Nat):z6 B w I ι (Q7 σ b none) D:=by
 have key:∀ b' o',find (Q7 σ b none) b'=some o'→find σ b'=some o':=by
  intro b' o' ho
  rw [l6] at ho
  by_cases e:b'=b
  ·rw [if_pos e] at ho;cases ho
  ·rwa [if_neg e] at ho
 exact ⟨hs.bnd,fun b' o' h=>hs.dom b' o' (key _ _ h),fun b₁ b₂ o₁ o₂ r h₁ h₂=>hs.inj b₁ b₂ o₁ o₂ r (key _ _ h₁) (key _ _ h₂),
  fun b' o' r h=>hs.ge b' o' r (key _ _ h),fun b' o' r k h=>hs.sep b' o' r k (key _ _ h),
  fun b' o' h=>(hs.obj b' o' (key _ _ h)).mono (b1Y b) rfl fun _ _=>rfl⟩
def l5 (ι:Nat→Option Nat) (nm:Nat) (x:Option Nat):Nat→Option Nat:=fun b=>if b=nm then x else ι b
def a2l (D:Nat→Prop) (nm:Nat):Nat→Prop:=fun b=>D b∨b=nm
theorem a7a {nm:Nat} {x:Option Nat} {o:d9} {ob:Obj} (hn:¬ D nm) (hb:∀ r k,I r k→r<w.heap.size) (hw:w'.heap=w.heap.push ob):
 q0 w I ι σ D w' I (l5 ι nm x) (Q7 σ nm (some o)) (a2l D nm) where
 keeps:=fun r k v hi hx=>by
  refine ⟨(B3 ?_).trans hx,hi⟩
  rw [hw,Array.getElem?_push,if_neg (by have:=hb r k hi;omega)]
 names:=fun _ h=>.inl h
 live:=fun b o' hD ho=>by
  have:b≠nm:=fun e=>hn (e ▸ hD)
  rw [l6,if_neg this] at ho
  exact ⟨o',ho,rfl,rfl,by simp [l5,this]⟩
 rows:=fun r c T fz hr=>by
  refine ⟨c,fz,?_,rfl⟩
  have hlt:r<w.heap.size:=(Array.getElem?_eq_some_iff.1 hr).1
  rw [hw,Array.getElem?_push,if_neg (by omega)];exact hr
 same:=fun b hD=>by
  have:b≠nm:=fun e=>hn (e ▸ hD)
  simp [l5,this]
 loops:=fun r _ _ hr=>by
  have hlt:r<w.heap.size:=(Array.getElem?_eq_some_iff.1 hr).1
  rw [hw,Array.getElem?_push,if_neg (by omega)];exact hr
theorem z6.new {nm:Nat} {o:d9} {c:Array Value} {T:TypeId} {fz:Nat × Nat} (hs:z6 B w I ι σ D) (hB:B≤w.heap.size) (hn:¬ D nm)
 (hw:w'.heap=w.heap.push (Obj.cells c T fz)) (hfz:Fz c fz) (hm:o.L0=false) (hlen:o.len*o.es≤c.size)
 (hrow:∀ i row,o.row? i=some row→row.length=o.es∧∀ j v,row[j]?=some v→∃ x,c[i*o.es+j]?=some x∧a6k w I ι σ D x v):
 z6 B w' I (l5 ι nm (some w.heap.size)) (Q7 σ nm (some o)) (a2l D nm):=by
 have hL:q0 w I ι σ D w' I (l5 ι nm (some w.heap.size)) (Q7 σ nm (some o)) (a2l D nm):=a7a hn hs.bnd hw
 have hnew:w'.heap[w.heap.size]?=some (Obj.cells c T fz):=by rw [hw];simp
 have hold:∀ r,r<w.heap.size→w'.heap[r]?=w.heap[r]?:=fun r hr=>by rw [hw,Array.getElem?_push,if_neg (by omega)]
 have hlt:∀ b o r,find σ b=some o→ι b=some r→r<w.heap.size:=by
  intro b o r hf hr
  have:=hs.obj b o hf
  cases o with
  | map ents=>obtain ⟨r',es,cl,h1,h2,_⟩:=this;rw [hr] at h1;cases h1;exact (Array.getElem?_eq_some_iff.1 h2).1
  | arr e r' s=>
    rcases this with ⟨h1,_⟩ | ⟨r',c,T,fz,h1,h2,_⟩
    ·rw [hr] at h1;cases h1
    ·rw [hr] at h1;cases h1;exact (Array.getElem?_eq_some_iff.1 h2).1
  | box e r' s=>
    rcases this with ⟨h1,_⟩ | ⟨r',c,T,fz,h1,h2,_⟩
    ·rw [hr] at h1;cases h1
    ·rw [hr] at h1;cases h1;exact (Array.getElem?_eq_some_iff.1 h2).1
 refine ⟨fun r k hi=>?_,fun b o' ho=>?_,fun b b' o₁ o₂ r h₁ h₂ e₁ e₂=>?_,fun b o' r ho e=>?_,fun b o' r k ho e hi=>?_,fun b o' ho=>?_⟩
 ·rw [hw,Array.size_push];have:=hs.bnd r k hi;omega
 ·rw [l6] at ho
  by_cases e:b=nm
  ·exact .inr e
  ·rw [if_neg e] at ho;exact .inl (hs.dom b o' ho)
 ·rw [l6] at h₁ h₂
  simp only [l5] at e₁ e₂
  by_cases e:b=nm <;>by_cases e':b'=nm
  ·rw [e,e']
  ·rw [if_pos e] at e₁;rw [if_neg e'] at e₂ h₂;have:=hlt b' o₂ r h₂ e₂;cases e₁;omega
  ·rw [if_neg e] at e₁ h₁;rw [if_pos e'] at e₂;have:=hlt b o₁ r h₁ e₁;cases e₂;omega
  ·rw [if_neg e] at e₁ h₁;rw [if_neg e'] at e₂ h₂;exact hs.inj b b' o₁ o₂ r h₁ h₂ e₁ e₂
 ·rw [l6] at ho
  simp only [l5] at e
  by_cases e':b=nm
  ·rw [if_pos e'] at e;cases e;exact hB
  ·rw [if_neg e'] at e ho;exact hs.ge b o' r ho e
 ·rw [l6] at ho
  simp only [l5] at e
  by_cases e':b=nm
  ·rw [if_pos e'] at e;cases e;have:=hs.bnd _ k hi;omega
  ·rw [if_neg e'] at e ho;exact hs.sep b o' r k ho e hi
 ·rw [l6] at ho
  by_cases e':b=nm
  ·rw [if_pos e'] at ho;cases ho;subst e'
   have hrows:D6 w' I (l5 ι b (some w.heap.size)) (Q7 σ b (some o)) (a2l D b) b o:=
    .inr ⟨w.heap.size,c,T,fz,by simp [l5],hnew,hfz,hlen,fun i row hr=>⟨(hrow i row hr).1,fun j v hv=>by
     obtain ⟨x,hx,hrep⟩:=(hrow i row hr).2 j v hv
     exact ⟨x,hx,hrep.mono hL⟩⟩⟩
   cases o with
   | map ents=>simp [d9.L0] at hm
   | arr e r' s=>exact hrows
   | box e r' s=>exact hrows
  ·rw [if_neg e'] at ho
   exact (hs.obj b o' ho).mono hL (by simp [l5,e']) fun r hr=>hold r (hlt b o' r ho hr)
theorem z6.lt (hs:z6 B w I ι σ D) {b:Nat} {o:d9} {r:Nat} (hf:find σ b=some o) (hr:ι b=some r):r<w.heap.size:=by
 have:=hs.obj b o hf
 cases o with
 | map ents=>obtain ⟨r',es,cl,h1,h2,_⟩:=this;rw [hr] at h1;cases h1;exact (Array.getElem?_eq_some_iff.1 h2).1
 | arr e r' s=>
   rcases this with ⟨h1,_⟩ | ⟨r',c,T,fz,h1,h2,_⟩
   ·rw [hr] at h1;cases h1
   ·rw [hr] at h1;cases h1;exact (Array.getElem?_eq_some_iff.1 h2).1
 | box e r' s=>
   rcases this with ⟨h1,_⟩ | ⟨r',c,T,fz,h1,h2,_⟩
   ·rw [hr] at h1;cases h1
   ·rw [hr] at h1;cases h1;exact (Array.getElem?_eq_some_iff.1 h2).1
theorem b5v {b:Nat} {o o':d9} {r:Nat} {c c':Array Value} {T:TypeId} {fz:Nat × Nat} (hf:find σ b=some o) (he:o'.es=o.es) (hl:o'.len=o.len)
 (hI:∀ k,¬ I r k) (hr:w.heap[r]?=some (Obj.cells c T fz)) (hr':w'.heap[r]?=some (Obj.cells c' T fz)) (hsz:c'.size=c.size)
 (ho:∀ k,k≠r→w'.heap[k]?=w.heap[k]?):q0 w I ι σ D w' I ι (Q7 σ b (some o')) D where
 keeps:=fun r' k v hi hx=>by
  have:r'≠r:=fun e=>hI k (e ▸ hi)
  exact ⟨(B3 (ho r' this)).trans hx,hi⟩
 names:=fun _ h=>h
 live:=fun b' o₁ _ h=>by
  rw [l6] at h
  by_cases e:b'=b
  ·rw [if_pos e] at h;cases h;subst e;exact ⟨o,hf,he,hl,rfl⟩
  ·rw [if_neg e] at h;exact ⟨o₁,h,rfl,rfl,rfl⟩
 rows:=fun r₁ c₁ T₁ fz₁ h₁=>by
  by_cases e:r₁=r
  ·subst e;rw [hr] at h₁;cases h₁;exact ⟨c',fz,hr',hsz⟩
  ·exact ⟨c₁,fz₁,(ho r₁ e).trans h₁,rfl⟩
 same:=fun _ _=>rfl
 loops:=fun r₁ _ hst h₁=>by
  by_cases e:r₁=r
  ·subst e;rw [hr] at h₁;cases h₁;cases hst
  ·exact (ho r₁ e).trans h₁
theorem z6.write {b:Nat} {o o':d9} {r:Nat} {c c':Array Value} {T:TypeId} {fz:Nat × Nat} (hs:z6 B w I ι σ D) (hf:find σ b=some o) (hι:ι b=some r)
 (hseal:o.O3=false) (hm:o'.L0=false) (he:o'.es=o.es) (hl:o'.len=o.len) (hfz:Fz c fz) (hle:o.len*o.es≤c.size)
 (hr:w.heap[r]?=some (Obj.cells c T fz)) (hr':w'.heap[r]?=some (Obj.cells c' T fz)) (hsz:c'.size=c.size) (hws:w'.heap.size=w.heap.size)
 (ho:∀ k,k≠r→w'.heap[k]?=w.heap[k]?)
 (hrow:∀ i row,o'.row? i=some row→row.length=o'.es∧∀ j v,row[j]?=some v→∃ x,c'[i*o'.es+j]?=some x∧a6k w I ι σ D x v):
 z6 B w' I ι (Q7 σ b (some o')) D∧q0 w I ι σ D w' I ι (Q7 σ b (some o')) D:=by
 have hI:∀ k,¬ I r k:=fun k hi=>by have:=(hs.sep b o r k hf hι hi).1;rw [hseal] at this;cases this
 have hL:q0 w I ι σ D w' I ι (Q7 σ b (some o')) D:=b5v hf he hl hI hr hr' hsz ho
 have key:∀ b' o₁,find (Q7 σ b (some o')) b'=some o₁→(b'=b∧o₁=o')∨(b'≠b∧find σ b'=some o₁):=by
  intro b' o₁ h
  rw [l6] at h
  by_cases e:b'=b
  ·rw [if_pos e] at h;cases h;exact .inl ⟨e,rfl⟩
  ·rw [if_neg e] at h;exact .inr ⟨e,h⟩
 have key2:∀ b' o₁,find (Q7 σ b (some o')) b'=some o₁→∃ o₂,find σ b'=some o₂:=by
  intro b' o₁ h
  rcases key b' o₁ h with ⟨rfl,rfl⟩ | ⟨_,h⟩
  ·exact ⟨o,hf⟩
  ·exact ⟨o₁,h⟩
 refine ⟨⟨fun r' k hi=>by rw [hws];exact hs.bnd r' k hi,fun b' o₁ h=>let ⟨o₂,h₂⟩:=key2 b' o₁ h;hs.dom b' o₂ h₂,
  fun b₁ b₂ o₁ o₂ r' h₁ h₂=>let ⟨p₁,q₁⟩:=key2 b₁ o₁ h₁;let ⟨p₂,q₂⟩:=key2 b₂ o₂ h₂;hs.inj b₁ b₂ p₁ p₂ r' q₁ q₂,
  fun b' o₁ r' h=>let ⟨o₂,h₂⟩:=key2 b' o₁ h;hs.ge b' o₂ r' h₂,fun b' o₁ r' k h e hi=>?_,fun b' o₁ h=>?_⟩,hL⟩
 ·rcases key b' o₁ h with ⟨rfl,rfl⟩ | ⟨_,h⟩
  ·rw [hι] at e;cases e;exact absurd hi (hI k)
  ·exact hs.sep b' o₁ r' k h e hi
 ·rcases key b' o₁ h with ⟨rfl,rfl⟩ | ⟨hne,h⟩
  ·have hrows:D6 w' I ι (Q7 σ b' (some o₁)) D b' o₁:=
    .inr ⟨r,c',T,fz,hι,hr',by unfold Fz at*;omega,by rw [he,hl,hsz];exact hle,fun i row hrw=>⟨(hrow i row hrw).1,fun j v hv=>by
     obtain ⟨x,hx,hrep⟩:=(hrow i row hrw).2 j v hv
     exact ⟨x,hx,hrep.mono hL⟩⟩⟩
   cases o₁ with
   | map ents=>simp [d9.L0] at hm
   | arr e r' s=>exact hrows
   | box e r' s=>exact hrows
  ·refine (hs.obj b' o₁ h).mono hL rfl fun r' hr₁=>ho r' fun e=>hne ?_
   exact hs.inj b' b o₁ o r h hf (e ▸ hr₁) hι
theorem z6.extend {b nm:Nat} {o o':d9} {r:Nat} {c c':Array Value} {T:TypeId} {fz:Nat × Nat} (hs:z6 B w I ι σ D) (hf:find σ b=some o) (hι:ι b=some r)
 (hn:¬ D nm) (hm:o'.L0=false) (he:o'.es=o.es) (hseal:o'.O3=o.O3) (hl:o.len≤o'.len) (hfz:Fz c fz)
 (hr:w.heap[r]?=some (Obj.cells c T fz)) (hr':w'.heap[r]?=some (Obj.cells c' T fz)) (hsz:c'.size=c.size) (hws:w'.heap.size=w.heap.size)
 (hsame:∀ k,k<o.len*o.es→c'[k]?=c[k]?) (hle:o'.len*o'.es≤c.size)
 (ho:∀ k,k≠r→w'.heap[k]?=w.heap[k]?)
 (hrow:∀ i row,o'.row? i=some row→row.length=o'.es∧∀ j v,row[j]?=some v→∃ x,c'[i*o'.es+j]?=some x∧a6k w I ι σ D x v):
 z6 B w' I (l5 ι nm (some r)) (Q7 (Q7 σ b none) nm (some o')) (a2l D nm)∧q0 w I ι σ D w' I (l5 ι nm (some r)) (Q7 (Q7 σ b none) nm (some o')) (a2l D nm):=by
 have hbn:b≠nm:=fun e=>hn (e ▸ hs.dom b o hf)
 have key:∀ b' o₁,find (Q7 (Q7 σ b none) nm (some o')) b'=some o₁→(b'=nm∧o₁=o')∨(b'≠nm∧b'≠b∧find σ b'=some o₁):=by
  intro b' o₁ h
  rw [l6,l6] at h
  by_cases e:b'=nm
  ·rw [if_pos e] at h;cases h;exact .inl ⟨e,rfl⟩
  ·rw [if_neg e] at h
   by_cases e':b'=b
   ·rw [if_pos e'] at h;cases h
   ·rw [if_neg e'] at h;exact .inr ⟨e,e',h⟩
 have hL:q0 w I ι σ D w' I (l5 ι nm (some r)) (Q7 (Q7 σ b none) nm (some o')) (a2l D nm):=by
  refine ⟨⟨fun r' k v hi hx=>?_,fun _ h=>.inl h,fun b' o₁ hD h=>?_,fun r₁ c₁ T₁ fz₁ h₁=>?_,fun b' hD=>by have:b'≠nm:=fun e=>hn (e ▸ hD);simp [l5,this]⟩,fun r₁ _ hst h₁=>by
   by_cases e:r₁=r
   ·subst e;rw [hr] at h₁;cases h₁;cases hst
   ·exact (ho r₁ e).trans h₁⟩
  ·by_cases e:r'=r
   ·subst e
    refine ⟨?_,hi⟩
    have hk:=(hs.sep b o r' k hf hι hi).2
    simp only [World.cell?,hr',hr] at hx ⊢
    simpa [hsame k hk] using hx
   ·exact ⟨(B3 (ho r' e)).trans hx,hi⟩
  ·rcases key b' o₁ h with ⟨rfl,rfl⟩ | ⟨e,_,h⟩
   ·exact absurd hD hn
   ·exact ⟨o₁,h,rfl,rfl,by simp [l5,e]⟩
  ·by_cases e:r₁=r
   ·subst e;rw [hr] at h₁;cases h₁;exact ⟨c',fz,hr',hsz⟩
   ·exact ⟨c₁,fz₁,(ho r₁ e).trans h₁,rfl⟩
 refine ⟨⟨fun r' k hi=>by rw [hws];exact hs.bnd r' k hi,fun b' o₁ h=>?_,fun b₁ b₂ o₁ o₂ r' h₁ h₂ e₁ e₂=>?_,fun b' o₁ r' h e=>?_,fun b' o₁ r' k h e hi=>?_,fun b' o₁ h=>?_⟩,hL⟩
 ·rcases key b' o₁ h with ⟨rfl,rfl⟩ | ⟨_,_,h⟩
  ·exact .inr rfl
  ·exact .inl (hs.dom b' o₁ h)
 ·rcases key b₁ o₁ h₁ with ⟨rfl,rfl⟩ | ⟨n₁,m₁,g₁⟩ <;>rcases key b₂ o₂ h₂ with ⟨rfl,rfl⟩ | ⟨n₂,m₂,g₂⟩
  ·rfl
  ·simp only [l5,if_true,if_neg n₂] at e₁ e₂;cases e₁;exact absurd (hs.inj b₂ b o₂ o _ g₂ hf e₂ hι) m₂
  ·simp only [l5,if_true,if_neg n₁] at e₁ e₂;cases e₂;exact absurd (hs.inj b₁ b o₁ o _ g₁ hf e₁ hι) m₁
  ·simp only [l5,if_neg n₁,if_neg n₂] at e₁ e₂;exact hs.inj b₁ b₂ o₁ o₂ r' g₁ g₂ e₁ e₂
 ·rcases key b' o₁ h with ⟨rfl,rfl⟩ | ⟨n₁,_,h⟩
  ·simp only [l5,if_true] at e;cases e;exact hs.ge b o r hf hι
  ·simp only [l5,if_neg n₁] at e;exact hs.ge b' o₁ r' h e
 ·rcases key b' o₁ h with ⟨rfl,rfl⟩ | ⟨n₁,_,h⟩
  ·simp only [l5,if_true] at e;cases e
   have:=hs.sep b o r k hf hι hi
   refine ⟨hseal ▸ this.1,Nat.lt_of_lt_of_le this.2 ?_⟩
   rw [he];exact Nat.mul_le_mul_right _ hl
  ·simp only [l5,if_neg n₁] at e;exact hs.sep b' o₁ r' k h e hi
 ·rcases key b' o₁ h with ⟨rfl,rfl⟩ | ⟨n₁,m₁,h⟩
  ·have hrows:D6 w' I (l5 ι b' (some r)) (Q7 (Q7 σ b none) b' (some o₁)) (a2l D b') b' o₁:=
    .inr ⟨r,c',T,fz,by simp [l5],hr',by unfold Fz at*;omega,by rw [hsz];exact hle,fun i row hrw=>⟨(hrow i row hrw).1,fun j v hv=>by
     obtain ⟨x,hx,hrep⟩:=(hrow i row hrw).2 j v hv
     exact ⟨x,hx,hrep.mono hL⟩⟩⟩
   cases o₁ with
   | map ents=>simp [d9.L0] at hm
   | arr e r' s=>exact hrows
   | box e r' s=>exact hrows
  ·refine (hs.obj b' o₁ h).mono hL (by simp [l5,n₁]) fun r' hr₁=>ho r' fun e=>m₁ ?_
   exact hs.inj b' b o₁ o r h hf (e ▸ hr₁) hι
end
end Go.Ab
namespace Go.Ab
open Go.RowKit
section
variable {B:Nat} {w w':World} {I:v9} {ι:Nat→Option Nat} {σ:b7} {D:Nat→Prop}
theorem z6.empty {nm:Nat} {o:d9} (hs:z6 B w I ι σ D) (hn:¬ D nm) (hm:o.L0=false) (hl:o.len=0):
 z6 B w I (l5 ι nm none) (Q7 σ nm (some o)) (a2l D nm)∧q0 w I ι σ D w I (l5 ι nm none) (Q7 σ nm (some o)) (a2l D nm):=by
 have key:∀ b' o₁,find (Q7 σ nm (some o)) b'=some o₁→(b'=nm∧o₁=o)∨(b'≠nm∧find σ b'=some o₁):=by
  intro b' o₁ h
  rw [l6] at h
  by_cases e:b'=nm
  ·rw [if_pos e] at h;cases h;exact .inl ⟨e,rfl⟩
  ·rw [if_neg e] at h;exact .inr ⟨e,h⟩
 have hL:q0 w I ι σ D w I (l5 ι nm none) (Q7 σ nm (some o)) (a2l D nm):=by
  refine ⟨⟨fun r' k v hi hx=>⟨hx,hi⟩,fun _ h=>.inl h,fun b' o₁ hD h=>?_,fun r₁ c₁ T₁ fz₁ h₁=>⟨c₁,fz₁,h₁,rfl⟩,fun b' hD=>by have:b'≠nm:=fun e=>hn (e ▸ hD);simp [l5,this]⟩,fun _ _ _ h=>h⟩
  rcases key b' o₁ h with ⟨rfl,rfl⟩ | ⟨e,h⟩
  ·exact absurd hD hn
  ·exact ⟨o₁,h,rfl,rfl,by simp [l5,e]⟩
 refine ⟨⟨hs.bnd,fun b' o₁ h=>?_,fun b₁ b₂ o₁ o₂ r' h₁ h₂ e₁ e₂=>?_,fun b' o₁ r' h e=>?_,fun b' o₁ r' k h e hi=>?_,fun b' o₁ h=>?_⟩,hL⟩
 ·rcases key b' o₁ h with ⟨rfl,rfl⟩ | ⟨_,h⟩
  ·exact .inr rfl
  ·exact .inl (hs.dom b' o₁ h)
 ·rcases key b₁ o₁ h₁ with ⟨rfl,rfl⟩ | ⟨n₁,g₁⟩
  ·simp [l5] at e₁
  ·rcases key b₂ o₂ h₂ with ⟨rfl,rfl⟩ | ⟨n₂,g₂⟩
   ·simp [l5] at e₂
   ·simp only [l5,if_neg n₁,if_neg n₂] at e₁ e₂;exact hs.inj b₁ b₂ o₁ o₂ r' g₁ g₂ e₁ e₂
 ·rcases key b' o₁ h with ⟨rfl,rfl⟩ | ⟨n₁,h⟩
  ·simp [l5] at e
  ·simp only [l5,if_neg n₁] at e;exact hs.ge b' o₁ r' h e
 ·rcases key b' o₁ h with ⟨rfl,rfl⟩ | ⟨n₁,h⟩
  ·simp [l5] at e
  ·simp only [l5,if_neg n₁] at e;exact hs.sep b' o₁ r' k h e hi
 ·rcases key b' o₁ h with ⟨rfl,rfl⟩ | ⟨n₁,h⟩
  ·have hrows:D6 w I (l5 ι b' none) (Q7 σ b' (some o₁)) (a2l D b') b' o₁:=.inl ⟨by simp [l5],hl⟩
   cases o₁ with
   | map ents=>simp [d9.L0] at hm
   | arr e r' s=>exact hrows
   | box e r' s=>exact hrows
  ·exact (hs.obj b' o₁ h).mono hL (by simp [l5,n₁]) fun _ _=>rfl
theorem d9.b4N (o:d9):o.C3.es=o.es:=by cases o <;>rfl
theorem d9.b2C (o:d9):o.C3.len=o.len:=by cases o <;>rfl
theorem d9.b5Y (o:d9) (h:o.L0=false):o.C3.O3=true:=by cases o <;>simp_all [d9.C3,d9.O3,d9.L0]
theorem d9.b6W (o:d9) (h:o.O3=true):o.C3.O3=true:=by cases o <;>simp_all [d9.C3,d9.O3]
def P0 (I:v9) (ι:Nat→Option Nat) (σ:b7) (m:List Nat):v9:=
 fun r k=>I r k∨∃ b o,b ∈ m∧find σ b=some o∧o.L0=false∧ι b=some r∧k<o.len*o.es
theorem z6.C3 (hs:z6 B w I ι σ D) (m:List Nat):
 z6 B w (P0 I ι σ m) ι (A6 σ m) D∧q0 w I ι σ D w (P0 I ι σ m) ι (A6 σ m) D:=by
 have key:∀ b o₁,find (A6 σ m) b=some o₁→∃ o,find σ b=some o∧o₁=if b ∈ m then o.C3 else o:=by
  intro b o₁ h
  rw [a0N,Option.map_eq_some_iff] at h
  obtain ⟨o,ho,h⟩:=h
  exact ⟨o,ho,h.symm⟩
 have hL:q0 w I ι σ D w (P0 I ι σ m) ι (A6 σ m) D:=by
  refine ⟨⟨fun r' k v hi hx=>⟨hx,.inl hi⟩,fun _ h=>h,fun b' o₁ hD h=>?_,fun r₁ c₁ T₁ fz₁ h₁=>⟨c₁,fz₁,h₁,rfl⟩,fun _ _=>rfl⟩,fun _ _ _ h=>h⟩
  obtain ⟨o,ho,rfl⟩:=key b' o₁ h
  refine ⟨o,ho,?_,?_,rfl⟩
  ·split;exact d9.b4N o;rfl
  ·split;exact d9.b2C o;rfl
 have hin:∀ b o r,find σ b=some o→o.L0=false→ι b=some r→∃ (c:Array Value) (T:TypeId) (fz:Nat × Nat),w.heap[r]?=some (Obj.cells c T fz)∧o.len*o.es≤c.size:=by
  intro b o r hf hm hr
  have:=hs.obj b o hf
  cases o with
  | map ents=>simp [d9.L0] at hm
  | arr e r' s=>
    rcases this with ⟨h1,_⟩ | ⟨r'',c,T,fz,h1,h2,h3,h4,h5⟩
    ·rw [hr] at h1;cases h1
    ·rw [hr] at h1;cases h1;exact ⟨c,T,fz,h2,h4⟩
  | box e r' s=>
    rcases this with ⟨h1,_⟩ | ⟨r'',c,T,fz,h1,h2,h3,h4,h5⟩
    ·rw [hr] at h1;cases h1
    ·rw [hr] at h1;cases h1;exact ⟨c,T,fz,h2,h4⟩
 refine ⟨⟨fun r k hi=>?_,fun b o₁ h=>let ⟨o,ho,_⟩:=key b o₁ h;hs.dom b o ho,fun b₁ b₂ o₁ o₂ r h₁ h₂=>let ⟨p₁,q₁,_⟩:=key b₁ o₁ h₁;let ⟨p₂,q₂,_⟩:=key b₂ o₂ h₂;hs.inj b₁ b₂ p₁ p₂ r q₁ q₂,
  fun b o₁ r h=>let ⟨o,ho,_⟩:=key b o₁ h;hs.ge b o r ho,fun b o₁ r k h e hi=>?_,fun b o₁ h=>?_⟩,hL⟩
 ·rcases hi with hi | ⟨b,o,_,hf,_,hr,_⟩
  ·exact hs.bnd r k hi
  ·exact hs.lt hf hr
 ·obtain ⟨o,ho,rfl⟩:=key b o₁ h
  rcases hi with hi | ⟨b₂,o₂,hb,hf,hm,hr,hk⟩
  ·have:=hs.sep b o r k ho e hi
   split
   ·rw [d9.b2C,d9.b4N];exact ⟨d9.b6W o this.1,this.2⟩
   ·exact this
  ·have:b=b₂:=hs.inj b b₂ o o₂ r ho hf e hr
   subst this
   rw [ho] at hf;cases hf
   rw [if_pos hb,d9.b2C,d9.b4N]
   exact ⟨d9.b5Y o hm,hk⟩
 ·obtain ⟨o,ho,rfl⟩:=key b o₁ h
  have hob:=(hs.obj b o ho).mono hL rfl fun _ _=>rfl
  split
  ·cases o with
   | map ents=>exact hob
   | arr e r' s=>
     rcases hob with h | ⟨r'',c,T,fz,h1,h2,h3,h4,h5⟩
     ·exact .inl h
     ·exact .inr ⟨r'',c,T,fz,h1,h2,h3,h4,h5⟩
   | box e r' s=>
     rcases hob with h | ⟨r'',c,T,fz,h1,h2,h3,h4,h5⟩
     ·exact .inl h
     ·exact .inr ⟨r'',c,T,fz,h1,h2,h3,h4,h5⟩
  ·exact hob
theorem z6.c4J {nm:Nat} (hs:z6 B w I ι σ D) (hB:B≤w.heap.size) (hn:¬ D nm) (hw:w'.heap=w.heap.push (Obj.map #[] 0)):
 z6 B w' I (l5 ι nm (some w.heap.size)) (Q7 σ nm (some (.map []))) (a2l D nm)∧q0 w I ι σ D w' I (l5 ι nm (some w.heap.size)) (Q7 σ nm (some (.map []))) (a2l D nm):=by
 have hL:q0 w I ι σ D w' I (l5 ι nm (some w.heap.size)) (Q7 σ nm (some (.map []))) (a2l D nm):=a7a hn hs.bnd hw
 have hnew:w'.heap[w.heap.size]?=some (Obj.map #[] 0):=by rw [hw];simp
 have hold:∀ r,r<w.heap.size→w'.heap[r]?=w.heap[r]?:=fun r hr=>by rw [hw,Array.getElem?_push,if_neg (by omega)]
 have key:∀ b' o₁,find (Q7 σ nm (some (.map []))) b'=some o₁→(b'=nm∧o₁= .map [])∨(b'≠nm∧find σ b'=some o₁):=by
  intro b' o₁ h
  rw [l6] at h
  by_cases e:b'=nm
  ·rw [if_pos e] at h;cases h;exact .inl ⟨e,rfl⟩
  ·rw [if_neg e] at h;exact .inr ⟨e,h⟩
 refine ⟨⟨fun r k hi=>?_,fun b' o₁ h=>?_,fun b₁ b₂ o₁ o₂ r' h₁ h₂ e₁ e₂=>?_,fun b' o₁ r' h e=>?_,fun b' o₁ r' k h e hi=>?_,fun b' o₁ h=>?_⟩,hL⟩
 ·rw [hw,Array.size_push];have:=hs.bnd r k hi;omega
 ·rcases key b' o₁ h with ⟨rfl,rfl⟩ | ⟨_,h⟩
  ·exact .inr rfl
  ·exact .inl (hs.dom b' o₁ h)
 ·rcases key b₁ o₁ h₁ with ⟨rfl,rfl⟩ | ⟨n₁,g₁⟩ <;>rcases key b₂ o₂ h₂ with ⟨rfl,rfl⟩ | ⟨n₂,g₂⟩
  ·rfl
  ·simp only [l5,if_true,if_neg n₂] at e₁ e₂;have:=hs.lt g₂ e₂;cases e₁;omega
  ·simp only [l5,if_true,if_neg n₁] at e₁ e₂;have:=hs.lt g₁ e₁;cases e₂;omega
  ·simp only [l5,if_neg n₁,if_neg n₂] at e₁ e₂;exact hs.inj b₁ b₂ o₁ o₂ r' g₁ g₂ e₁ e₂
 ·rcases key b' o₁ h with ⟨rfl,rfl⟩ | ⟨n₁,h⟩
  ·simp only [l5,if_true] at e;cases e;exact hB
  ·simp only [l5,if_neg n₁] at e;exact hs.ge b' o₁ r' h e
 ·rcases key b' o₁ h with ⟨rfl,rfl⟩ | ⟨n₁,h⟩
  ·simp only [l5,if_true] at e;cases e;have:=hs.bnd _ k hi;omega
  ·simp only [l5,if_neg n₁] at e;exact hs.sep b' o₁ r' k h e hi
 ·rcases key b' o₁ h with ⟨rfl,rfl⟩ | ⟨n₁,h⟩
  ·exact ⟨w.heap.size,#[],0,by simp [l5],hnew,fun e he=>by simp at he,fun k v h=>by simp [m9] at h⟩
  ·exact (hs.obj b' o₁ h).mono hL (by simp [l5,n₁]) fun r hr=>hold r (hs.lt h hr)
theorem z6.c4M {b:Nat} {ents:List (List UInt8 × AV)} {r:Nat} {es:Array MapEntry} {clock:Nat} {k:List UInt8} {v:AV} {e:MapEntry}
 (hs:z6 B w I ι σ D) (hf:find σ b=some (.map ents)) (hι:ι b=some r) (hr:w.heap[r]?=some (Obj.map es clock))
 (hno:m9 k ents=none) (hk:e.key= .string ⟨k.toArray⟩) (hv:e8 w I ι σ D e.val v)
 (hr':w'.heap[r]?=some (Obj.map (es.push e) (clock+1))) (hws:w'.heap.size=w.heap.size) (ho:∀ k,k≠r→w'.heap[k]?=w.heap[k]?):
 z6 B w' I ι (Q7 σ b (some (.map (W5 k v ents)))) D∧q0 w I ι σ D w' I ι (Q7 σ b (some (.map (W5 k v ents)))) D:=by
 have hI:∀ k,¬ I r k:=fun k hi=>by have:=(hs.sep b _ r k hf hι hi).1;simp [d9.O3] at this
 have key:∀ b' o₁,find (Q7 σ b (some (.map (W5 k v ents)))) b'=some o₁→(b'=b∧o₁= .map (W5 k v ents))∨(b'≠b∧find σ b'=some o₁):=by
  intro b' o₁ h
  rw [l6] at h
  by_cases e:b'=b
  ·rw [if_pos e] at h;cases h;exact .inl ⟨e,rfl⟩
  ·rw [if_neg e] at h;exact .inr ⟨e,h⟩
 have hL:q0 w I ι σ D w' I ι (Q7 σ b (some (.map (W5 k v ents)))) D:=by
  refine ⟨⟨fun r' k v hi hx=>?_,fun _ h=>h,fun b' o₁ hD h=>?_,fun r₁ c₁ T₁ fz₁ h₁=>?_,fun _ _=>rfl⟩,fun r₁ _ hst h₁=>by
   have:r₁≠r:=fun e=>by subst e;rw [hr] at h₁;cases h₁;cases hst
   exact (ho r₁ this).trans h₁⟩
  ·have:r'≠r:=fun e=>hI k (e ▸ hi)
   exact ⟨(B3 (ho r' this)).trans hx,hi⟩
  ·rcases key b' o₁ h with ⟨rfl,rfl⟩ | ⟨e,h⟩
   ·exact ⟨_,hf,rfl,rfl,rfl⟩
   ·exact ⟨o₁,h,rfl,rfl,rfl⟩
  ·have:r₁≠r:=fun e=>by subst e;rw [hr] at h₁;cases h₁
   exact ⟨c₁,fz₁,(ho r₁ this).trans h₁,rfl⟩
 have key2:∀ b' o₁,find (Q7 σ b (some (.map (W5 k v ents)))) b'=some o₁→∃ o₂,find σ b'=some o₂:=by
  intro b' o₁ h
  rcases key b' o₁ h with ⟨rfl,rfl⟩ | ⟨_,h⟩
  ·exact ⟨_,hf⟩
  ·exact ⟨o₁,h⟩
 refine ⟨⟨fun r' k hi=>by rw [hws];exact hs.bnd r' k hi,fun b' o₁ h=>let ⟨o₂,h₂⟩:=key2 b' o₁ h;hs.dom b' o₂ h₂,
  fun b₁ b₂ o₁ o₂ r' h₁ h₂=>let ⟨p₁,q₁⟩:=key2 b₁ o₁ h₁;let ⟨p₂,q₂⟩:=key2 b₂ o₂ h₂;hs.inj b₁ b₂ p₁ p₂ r' q₁ q₂,
  fun b' o₁ r' h=>let ⟨o₂,h₂⟩:=key2 b' o₁ h;hs.ge b' o₂ r' h₂,fun b' o₁ r' k h e hi=>?_,fun b' o₁ h=>?_⟩,hL⟩
 ·rcases key b' o₁ h with ⟨rfl,rfl⟩ | ⟨_,h⟩
  ·rw [hι] at e;cases e;exact absurd hi (hI k)
  ·exact hs.sep b' o₁ r' k h e hi
 ·rcases key b' o₁ h with ⟨rfl,rfl⟩ | ⟨hne,h⟩
  ·obtain ⟨r₂,es₂,cl₂,h1,h2,h3,h4⟩:=hs.obj b' _ hf
   rw [hι] at h1;cases h1;rw [hr] at h2;cases h2
   refine ⟨r,es.push e,clock+1,hι,hr',fun e₁ he₁=>?_,fun k₁ v₁ hl₁=>?_⟩
   ·simp only [Array.toList_push,List.mem_append,List.mem_singleton] at he₁
    rcases he₁ with he₁ | rfl
    ·obtain ⟨k₁,v₁,a1,a2,a3⟩:=h3 e₁ he₁
     have hne:k₁≠k:=fun e=>by subst e;rw [hno] at a2;cases a2
     exact ⟨k₁,v₁,a1,by rw [O6 hne];exact a2,a3.mono hL⟩
    ·exact ⟨k,v,hk,a5X _ hno,hv.mono hL⟩
   ·by_cases e':k₁=k
    ·subst e';exact ⟨e,by simp,hk⟩
    ·rw [O6 e'] at hl₁
     obtain ⟨e₁,m1,m2⟩:=h4 k₁ v₁ hl₁
     exact ⟨e₁,by simp [m1],m2⟩
  ·refine (hs.obj b' o₁ h).mono hL rfl fun r' hr₁=>ho r' fun e=>hne ?_
   exact hs.inj b' b o₁ _ r h hf (e ▸ hr₁) hι
end
end Go.Ab
namespace Go.Ab
open Go.RowKit
def b0F:Value→AV→Bool
 | .bool a,.pv (.bool b)=>a==b
 | .int k a,.pv (.int k' b)=>decide (k=k')&&a==b
 | .string s,.pv (.str l)=>s.data.toList==l
 | .slice none 0 0,.emp _=>true
 | .slice none 0 0,.pv (.sl _ [])=>true
 | .nilFunc,.pv .nilFunc=>true
 | .func (.func f) xs ys,.func (.func g) [] []=>f==g&&xs.size==0&&ys.size==0
 | _,_=>false
def a5U:List Value→List AV→Bool
 | [],[]=>true
 | v::l,a::m=>b0F v a&&a5U l m
 | _,_=>false
def c4m:Value→AV→Bool
 | .agg cs,.agg l=>a5U cs.toList l
 | v,a=>b0F v a
def i7:Operand→RA→Bool
 | .tmp t,.t u=>t==u&&decide (t<1024)
 | .const v,.c a=>c4m v a
 | .func f,.f g=>f==g
 | .global g,.g i=>g==i
 | _,_=>false
def a1g:List Operand→List RA→Bool
 | [],[]=>true
 | o::l,r::m=>i7 o r&&a1g l m
 | _,_=>false
def a7k:Option Operand→Option RA→Bool
 | none,none=>true
 | some o,some r=>i7 o r
 | _,_=>false
def n7 (P:Program) (t n:Nat):Bool:=match P.info? t with | some i=>i.size==n | none=>false
def S8 (P:Program) (t:Nat) (agg:Bool):Bool:=match P.underlying t with
 | some (.struct _)=>agg
 | some (.array _ _)=>agg
 | some _=>!agg
 | none=>false
def Z0 (P:Program) (t:Nat) (zs:List AV):Bool:=match P.info? t with
 | some i=>(match i.zero with | some z=>a5U z.cells.toList zs | none=>false)
 | none=>false
section
variable {P:Program} {w:World} {I:v9} {ι:Nat→Option Nat} {σ:b7} {D:Nat→Prop}
theorem b9Q {s:ByteArray} {l:List UInt8} (h:s.data.toList=l):s=⟨l.toArray⟩:=by
 obtain ⟨d⟩:=s;subst h;simp
theorem z5.c1C {s:ByteArray} {l:List UInt8} (h:s.data.toList=l):z5 w I (.string s) (.str l):=h ▸ .str s
theorem a9S {v:Value} {a:AV} (h:b0F v a=true):e8 w I ι σ D v a:=by
 unfold b0F at h
 split at h
 ·simp at h;subst h;exact .pv (.bool _)
 ·simp at h;obtain ⟨rfl,rfl⟩:=h;exact .pv (.int _ _)
 ·simp at h;exact .pv (.c1C h)
 ·exact .emp _
 ·exact .pv (.sl (fun _ _=>default) rfl (Nat.le_refl _) (fun i row h=>by simp at h) (fun h=>absurd rfl h) (fun i j row q h=>by simp at h))
 ·exact .pv .nilFunc
 ·rename_i f xs ys g
  simp at h
  obtain ⟨⟨rfl,hx⟩,hy⟩:=h
  subst hx;subst hy
  exact .func rfl rfl (fun j x q _ hq=>by simp at hq) (fun j x q _ hq=>by simp at hq)
 ·cases h
theorem a9T:∀ {l:List Value} {m:List AV},a5U l m=true→l.length=m.length∧∀ (j:Nat) (x:Value) (q:AV),l[j]?=some x→m[j]?=some q→e8 w I ι σ D x q
 | [],[],_=>⟨rfl,fun j x q hx=>by simp at hx⟩
 | v::l,a::m,h=>by
   simp only [a5U,Bool.and_eq_true] at h
   obtain ⟨h1,h2⟩:=h
   obtain ⟨e,hr⟩:=a9T h2
   refine ⟨by simp [e],fun j x q hx hq=>?_⟩
   cases j with
   | zero=>simp at hx hq;subst hx;subst hq;exact a9S h1
   | succ j=>simp at hx hq;exact hr j x q hx hq
 | [],_::_,h=>by simp [a5U] at h
 | _::_,[],h=>by simp [a5U] at h
theorem b9U {v:Value} {a:AV} (h:c4m v a=true):e8 w I ι σ D v a:=by
 unfold c4m at h
 split at h
 ·obtain ⟨e,hr⟩:=a9T h
  exact .agg (by simpa using e) fun j x q hx hq=>hr j x q (by simpa using hx) hq
 ·exact a9S h
theorem x8 {t n:Nat} (h:n7 P t n=true) (w:World):(sizeOf t).run P w= .ok n w:=by
 unfold n7 at h
 split at h
 ·rename_i i hi
  simp at h
  simp [sizeOf,typeInfo,hi,h]
 ·cases h
theorem T7 {t:Nat} {g:Bool} (h:S8 P t g=true) (w:World):(isAgg t).run P w= .ok g w:=by
 unfold S8 at h
 split at h <;>simp_all [isAgg,underlying]
theorem i5 {t:TypeId} {d:TypeDesc} (h:P.underlying t=some d) (w:World):(underlying t).run P w= .ok d w:=by
 simp [underlying,h]
theorem a5e {t:Nat} {zs:List AV} (h:Z0 P t zs=true) (w:World):∃ z,(zeroValue t).run P w= .ok z w∧a5U z.cells.toList zs=true:=by
 unfold Z0 at h
 split at h
 ·rename_i i hi
  split at h
  ·rename_i z hz
   exact ⟨z,by simp [zeroValue,typeInfo,hi,hz],h⟩
  ·cases h
 ·cases h
end
theorem a5y {w:World} {I:v9} {ι:Nat→Option Nat} {σ:b7} {D:Nat→Prop} {v:Value} {k:IntKind} {n:Int} (h:e8 w I ι σ D v (.pv (.int k n))):v= .int k n:=by
 cases h with | pv h=>cases h;rfl
theorem a4T {w:World} {I:v9} {ι:Nat→Option Nat} {σ:b7} {D:Nat→Prop} {v:Value} {b:Bool} (h:e8 w I ι σ D v (.pv (.bool b))):v= .bool b:=by
 cases h with | pv h=>cases h;rfl
theorem a2M {w:World} {I:v9} {ι:Nat→Option Nat} {σ:b7} {D:Nat→Prop} {v:Value} {l:List UInt8} (h:e8 w I ι σ D v (.pv (.str l))):v= .string ⟨l.toArray⟩:=by
 cases h with | pv h=>cases h;exact congrArg Value.string (b9Q rfl)
structure Core (B:Nat) (w0:World) (I0:v9) (w:World) (I:v9) (ι:Nat→Option Nat) (σ:b7) (D:Nat→Prop):Prop where
 u6:z6 B w I ι σ D
 below:Below B w0 w
 hB:B≤w0.heap.size
 ext:∀ r k,I0 r k→I r k
 old:∀ r k,r<B→I r k→I0 r k
def b3Z (B:Nat) (w0:World) (I0:v9) (w:World) (I:v9) (ι:Nat→Option Nat) (σ:b7) (D:Nat→Prop) (nm:Nat) (av:AV) (v:Value) (w':World) (σ':b7):Prop:=
 ∃ I' ι' D',Core B w0 I0 w' I' ι' σ' D'∧q0 w I ι σ D w' I' ι' σ' D'∧e8 w' I' ι' σ' D' v av∧∀ b,D' b→D b∨(nm≤b∧b<nm+g9)
def Good (P:Program) (B:Nat) (w0:World) (I0:v9) (w:World) (I:v9) (ι:Nat→Option Nat) (σ:b7) (D:Nat→Prop) (nm:Nat) (e:l7) (s:Sem Next):Prop:=
 ∃ nx v w',s.run P w= .ok nx w'∧(nx= .value v∨(nx= .skip∧v=undef))∧b3Z B w0 I0 w I ι σ D nm e.v v w' (m0 σ e.up)
section
variable {P:Program} {B:Nat} {w0:World} {I0:v9} {w:World} {I:v9} {ι:Nat→Option Nat} {σ:b7} {D:Nat→Prop} {nm:Nat} {ρ:Operand→Value} {ev:RA→AV}
theorem b3Z.same {av:AV} {v:Value} (hc:Core B w0 I0 w I ι σ D) (h:e8 w I ι σ D v av):b3Z B w0 I0 w I ι σ D nm av v w σ:=
 ⟨I,ι,D,hc,q0.refl,h,fun _ h=>.inl h⟩
theorem f0 {e:l7} {s:Sem Next} {v:Value} (hc:Core B w0 I0 w I ι σ D) (hr:s.run P w= .ok (.value v) w) (hu:e.up=[]) (h:e8 w I ι σ D v e.v):
 Good P B w0 I0 w I ι σ D nm e s:=
 ⟨_,v,w,hr,.inl rfl,by rw [hu];exact b3Z.same hc h⟩
variable (hev:∀ o r,i7 o r=true→e8 w I ι σ D (ρ o) (ev r))
include hev
theorem a1s:∀ {l:List Operand} {m:List RA},a1g l m=true→l.length=m.length∧∀ (j:Nat) (x:Operand) (q:RA),l[j]?=some x→m[j]?=some q→e8 w I ι σ D (ρ x) (ev q)
 | [],[],_=>⟨rfl,fun j x q hx=>by simp at hx⟩
 | v::l,a::m,h=>by
   simp only [a1g,Bool.and_eq_true] at h
   obtain ⟨h1,h2⟩:=h
   obtain ⟨e,hr⟩:=a1s h2
   refine ⟨by simp [e],fun j x q hx hq=>?_⟩
   cases j with
   | zero=>simp at hx hq;subst hx;subst hq;exact hev _ _ h1
   | succ j=>simp at hx hq;exact hr j x q hx hq
 | [],_::_,h=>by simp [a1g] at h
 | _::_,[],h=>by simp [a1g] at h
theorem a9x {o:Operand} {r:RA} {k:IntKind} {n:Int} (h:i7 o r=true) (he:ev r= .pv (.int k n)):ρ o= .int k n:=
 a5y (he ▸ hev o r h)
theorem a6Q {o:Operand} {r:RA} {b:Bool} (h:i7 o r=true) (he:ev r= .pv (.bool b)):ρ o= .bool b:=
 a4T (he ▸ hev o r h)
theorem a5P {o:Operand} {r:RA} {l:List UInt8} (h:i7 o r=true) (he:ev r= .pv (.str l)):ρ o= .string ⟨l.toArray⟩:=
 a2M (he ▸ hev o r h)
end
end Go.Ab
namespace Go.Ab
open Go.RowKit
section
variable {P:Program} {B:Nat} {w0:World} {I0:v9} {w:World} {I:v9} {ι:Nat→Option Nat} {σ:b7} {D:Nat→Prop} {nm:Nat} {ρ:Operand→Value} {ev:RA→AV} {e:l7}
variable (hc:Core B w0 I0 w I ι σ D) (hev:∀ o r,i7 o r=true→e8 w I ι σ D (ρ o) (ev r))
include hc hev
theorem c1i {x:Operand} {y:RA} (hx:i7 x y=true) (h:step σ nm ev (.mv y)=some e):Good P B w0 I0 w I ι σ D nm e (pure (.value (ρ x))):=by
 simp only [step,l7.of] at h;cases h
 exact f0 hc rfl rfl (hev x y hx)
theorem c1j {c a b:Operand} {c' a' b':RA} (h1:i7 c c'=true) (h2:i7 a a'=true) (h3:i7 b b'=true) (h:step σ nm ev (.pick c' a' b')=some e):
 Good P B w0 I0 w I ι σ D nm e (do pure (.value (if ← asBool (ρ c) then ρ a else ρ b))):=by
 simp only [step] at h
 split at h
 ·rename_i x hx
  cases x with
  | true=>
    simp only [l7.of] at h;cases h
    exact f0 (v:=ρ a) hc (by simp [a6Q hev h1 hx,asBool]) rfl (hev a a' h2)
  | false=>
    simp only [l7.of] at h;cases h
    exact f0 (v:=ρ b) hc (by simp [a6Q hev h1 hx,asBool]) rfl (hev b b' h3)
 ·cases h
theorem c2V {x:Operand} {y:RA} (hx:i7 x y=true) (h:step σ nm ev (.not y)=some e):Good P B w0 I0 w I ι σ D nm e (do pure (.value (← Op.unary .not (ρ x)))):=by
 simp only [step] at h
 split at h
 ·rename_i b hb
  simp only [l7.of] at h;cases h
  exact f0 (v:=.bool !b) hc (by simp [a6Q hev hx hb,Op.unary]) rfl (.pv (.bool _))
 ·cases h
theorem c2U {x:Operand} {y:RA} (hx:i7 x y=true) (h:step σ nm ev (.neg y)=some e):Good P B w0 I0 w I ι σ D nm e (do pure (.value (← Op.unary .neg (ρ x)))):=by
 simp only [step] at h
 split at h
 ·rename_i k n hb
  simp only [l7.of] at h;cases h
  exact f0 (v:=.int k (k.wrap (0 - n))) hc (by simp [a9x hev hx hb,Op.unary,Op.intArith]) rfl (.pv (.int _ _))
 ·cases h
theorem c1d {x:Operand} {y:RA} {s d:TypeId} {k:IntKind} {ds:TypeDesc} (hs:P.underlying s=some ds) (hd:P.underlying d=some (.int k)) (hx:i7 x y=true) (h:step σ nm ev (.conv k y)=some e):
 Good P B w0 I0 w I ι σ D nm e (do pure (.value (← convert s d (ρ x)))):=by
 simp only [step] at h
 split at h
 ·rename_i k' n hb
  simp only [l7.of] at h;cases h
  refine f0 (v:=.int k (k.wrap n)) hc ?_ rfl (.pv (.int _ _))
  rw [a9x hev hx hb]
  simp [convert,i5 hs,i5 hd,Conv.intToInt]
 ·cases h
theorem c1k {x:Operand} {y:RA} {s d:TypeId} {ds:TypeDesc} (hs:P.underlying s=some ds) (hd:P.underlying d=some .string) (hx:i7 x y=true) (h:step σ nm ev (.same y)=some e):
 Good P B w0 I0 w I ι σ D nm e (do pure (.value (← convert s d (ρ x)))):=by
 simp only [step] at h
 split at h
 ·rename_i l hb
  simp only [l7.of] at h;cases h
  refine f0 (v:=.string ⟨l.toArray⟩) hc ?_ rfl (.pv (.c1C (by simp)))
  rw [a5P hev hx hb]
  simp [convert,i5 hs,i5 hd]
 ·cases h
theorem c2T {fn:Fn} {xs ys:Array Operand} {xs' ys':List RA} (h1:a1g xs.toList xs'=true) (h2:a1g ys.toList ys'=true) (h:step σ nm ev (.mkf fn xs' ys')=some e):
 Good P B w0 I0 w I ι σ D nm e (do pure (.value (← Instr.makeFunc fn (xs.map ρ) (ys.map ρ)))):=by
 simp only [step,l7.of] at h;cases h
 refine f0 (v:=.func fn (xs.map ρ) (ys.map ρ)) hc (by simp [Instr.makeFunc]) rfl ?_
 obtain ⟨e1,r1⟩:=a1s hev h1
 obtain ⟨e2,r2⟩:=a1s hev h2
 refine .func (by simpa using e1) (by simpa using e2) (fun j x q hx hq=>?_) (fun j x q hx hq=>?_)
 ·simp only [Array.getElem?_map,Option.map_eq_some_iff,List.getElem?_map] at hx hq
  obtain ⟨x',hx',rfl⟩:=hx
  obtain ⟨q',hq',rfl⟩:=hq
  exact r1 j x' q' (by simpa using hx') hq'
 ·simp only [Array.getElem?_map,Option.map_eq_some_iff,List.getElem?_map] at hx hq
  obtain ⟨x',hx',rfl⟩:=hx
  obtain ⟨q',hq',rfl⟩:=hq
  exact r2 j x' q' (by simpa using hx') hq'
omit hev in
theorem c1c {n:Nat} {x:Operand} {t:TypeId} {el:TypeId} (ht:P.underlying t=some (.array n el)) (h:step σ nm ev (.b8k n)=some e):
 Good P B w0 I0 w I ι σ D nm e (do pure (.value (← Builtin.len_ #[t] 0 #[ρ x]))):=by
 simp only [step,l7.of] at h;cases h
 exact f0 (v:=goInt n) hc (by simp [Builtin.len_,i5 ht]) rfl (.pv (.int _ _))
theorem b7d {x:Operand} {y:RA} {t ty:TypeId} (ht:P.underlying t=some .string) (hx:i7 x y=true) (h:step σ nm ev (.a0m y)=some e):
 Good P B w0 I0 w I ι σ D nm e (do pure (.value (← Builtin.len_ #[t] ty #[ρ x]))):=by
 simp only [step] at h
 split at h
 ·rename_i l hb
  simp only [l7.of] at h;cases h
  refine f0 (v:=goInt l.length) hc ?_ rfl (.pv (.int _ _))
  rw [a5P hev hx hb]
  have hsz:(ByteArray.mk l.toArray).size=l.length:=by simp [ByteArray.size]
  unfold Builtin.len_
  simp [i5 ht,hsz]
 ·cases h
omit hc in
theorem b6N {o:Option Operand} {r:Option RA} {d i:Int} (hx:a7k o r=true) (h:j4 ev d r=some i):(o=none∧i=d)∨∃ x k,o=some x∧ρ x= .int k i:=by
 cases o <;>cases r <;>simp only [a7k] at hx <;>try cases hx
 ·simp only [j4] at h;cases h;exact .inl ⟨rfl,rfl⟩
 ·rename_i x y
  simp only [j4] at h
  refine .inr ⟨x,?_⟩
  cases hy:ev y with
  | pv p=>
    cases p <;>rw [hy] at h <;>simp only [idxOf] at h <;>cases h
    rename_i k
    exact ⟨k,rfl,a9x hev hx hy⟩
  | _=>rw [hy] at h;simp [idxOf] at h
omit hc hev in
theorem run_sliceBound {x:Value} {k:IntKind} {i:Int} {y:Nat} {code:BoundsCode} (hx:x= .int k i) (h0:0≤i) (h1:i≤y) (w:World):
 (Instr.sliceBound x y code).run P w= .ok i.toNat w:=by
 subst hx
 simp [Instr.sliceBound,asIntOf,h0,h1]
end
end Go.Ab
namespace Go.Ab
open Go.RowKit
section
variable {P:Program} {B:Nat} {w0:World} {I0:v9} {w:World} {I:v9} {ι:Nat→Option Nat} {σ:b7} {D:Nat→Prop} {nm:Nat} {ρ:Operand→Value} {ev:RA→AV} {e:l7}
theorem c2u (bs:ByteArray):∀ (n i:Nat) (r:List UInt8),bs.size - i=n→ByteArray.toList.loop bs i r=r.reverse++bs.data.toList.drop i:=by
 intro n
 induction n with
 | zero=>
   intro i r h
   unfold ByteArray.toList.loop
   rw [if_neg (by omega)]
   have:bs.data.toList.drop i=[]:=List.drop_eq_nil_of_le (by show bs.data.size≤i;have:bs.size=bs.data.size:=rfl;omega)
   simp [this]
 | succ n ih=>
   intro i r h
   unfold ByteArray.toList.loop
   have hlt:i<bs.data.toList.length:=by show i<bs.data.size;have:bs.size=bs.data.size:=rfl;omega
   rw [if_pos (by omega),ih (i+1) _ (by omega),List.drop_eq_getElem_cons hlt]
   have:bs.get! i=bs.data.toList[i]:=by
    simp [ByteArray.get!];rw [getElem!_pos bs.data i hlt]
   simp [this]
theorem bt (bs:ByteArray):bs.toList=bs.data.toList:=by
 unfold ByteArray.toList
 rw [c2u bs _ 0 [] rfl];simp
theorem a9n (a b:List UInt8):((ByteArray.mk a.toArray).toList==(ByteArray.mk b.toArray).toList)=(a==b):=by
 rw [bt,bt]
theorem a9B (l:List UInt8):(ByteArray.mk l.toArray).size=l.length:=by simp [ByteArray.size]
theorem b8l (a b:List UInt8):(ByteArray.mk a.toArray)++(ByteArray.mk b.toArray)=⟨(a++b).toArray⟩:=by
 apply ByteArray.ext;simp
theorem b9a {op:BinOp} {t:TypeId} {x y v:AV} {vx vy:Value} (h:binop op x y=some v) (hx:e8 w I ι σ D vx x) (hy:e8 w I ι σ D vy y):
 ∃ r,(binOp op t vx vy).run P w= .ok r w∧e8 w I ι σ D r v∧(∀ cs,vx≠ .agg cs)∧vx≠ .nilIface:=by
 unfold binop at h
 split at h
 ·rename_i k a k' b
  rw [a5y hx,a5y hy]
  split at h
  ·rename_i hk
   subst hk
   split at h
   case h_1=>cases h;exact ⟨.int k (k.wrap (a+b)),by simp [binOp,Op.intArith],.pv (.int _ _),by simp,by simp⟩
   case h_2=>cases h;exact ⟨.int k (k.wrap (a - b)),by simp [binOp,Op.intArith],.pv (.int _ _),by simp,by simp⟩
   case h_3=>cases h;exact ⟨.int k (k.wrap (a*b)),by simp [binOp,Op.intArith],.pv (.int _ _),by simp,by simp⟩
   case h_4=>
    split at h
    ·cases h
    ·rename_i hb;cases h;exact ⟨.int k (k.wrap (a.tdiv b)),by simp [binOp,Op.intDiv,hb],.pv (.int _ _),by simp,by simp⟩
   case h_5=>
    split at h
    ·cases h
    ·rename_i hb;cases h;exact ⟨.int k (a.tmod b),by simp [binOp,Op.intDiv,hb],.pv (.int _ _),by simp,by simp⟩
   case h_6=>cases h;exact ⟨.bool (a==b),by simp [binOp,Op.intCmp],.pv (.bool _),by simp,by simp⟩
   case h_7=>cases h;exact ⟨.bool (a != b),by simp [binOp,Op.intCmp],.pv (.bool _),by simp,by simp⟩
   case h_8=>cases h;exact ⟨.bool (decide (a<b)),by simp [binOp,Op.intCmp],.pv (.bool _),by simp,by simp⟩
   case h_9=>cases h;exact ⟨.bool (decide (a≤b)),by simp [binOp,Op.intCmp],.pv (.bool _),by simp,by simp⟩
   case h_10=>cases h;exact ⟨.bool (decide (a>b)),by simp [binOp,Op.intCmp],.pv (.bool _),by simp,by simp⟩
   case h_11=>cases h;exact ⟨.bool (decide (a≥b)),by simp [binOp,Op.intCmp],.pv (.bool _),by simp,by simp⟩
   case h_12=>cases h
  ·cases h
 ·rename_i a b
  rw [a2M hx,a2M hy];cases h
  exact ⟨.bool (a==b),by simp only [binOp,Op.stringOp,a9n];rfl,.pv (.bool _),by simp,by simp⟩
 ·rename_i a b
  rw [a2M hx,a2M hy];cases h
  exact ⟨.bool (!(a==b)),by simp only [binOp,Op.stringOp,a9n];rfl,.pv (.bool _),by simp,by simp⟩
 ·rename_i a b
  rw [a2M hx,a2M hy]
  split at h
  ·rename_i hlt
   cases h
   refine ⟨.string ⟨(a++b).toArray⟩,?_,.pv (.c1C (by simp)),by simp,by simp⟩
   have:¬ (((ByteArray.mk a.toArray).size+(ByteArray.mk b.toArray).size:Nat):Int)>IntKind.i64.max:=by
    rw [a9B,a9B];have:IntKind.i64.max=9223372036854775807:=rfl;rw [this];omega
   simp only [binOp,Op.stringOp,if_neg this,b8l];rfl
  ·cases h
 ·cases h
theorem a6R {op:BinOp} {t:TypeId} {x y:Operand} {vx vy:Value} (h1:∀ cs,vx≠ .agg cs) (h2:vx≠ .nilIface):(eqGuard op t x y vx vy).run P w= .ok () w:=by
 unfold eqGuard
 cases vx <;>first | exact absurd rfl h2 | exact absurd rfl (h1 _) | (cases op <;>rfl)
variable (hc:Core B w0 I0 w I ι σ D) (hev:∀ o r,i7 o r=true→e8 w I ι σ D (ρ o) (ev r))
include hc hev
theorem c2Q {op:BinOp} {t:TypeId} {x y:Operand} {x' y':RA} (h1:i7 x x'=true) (h2:i7 y y'=true) (h:step σ nm ev (.bin op x' y')=some e):
 Good P B w0 I0 w I ι σ D nm e (do pure (.value (← (do eqGuard op t x y (ρ x) (ρ y);binOp op t (ρ x) (ρ y))))):=by
 simp only [step] at h
 split at h
 ·rename_i v hv
  simp only [l7.of] at h;cases h
  obtain ⟨r,hr,hrep,n1,n2⟩:=b9a (P:=P) (t:=t) (w:=w) hv (hev _ _ h1) (hev _ _ h2)
  exact f0 (v:=r) hc (by simp [a6R n1 n2,hr]) rfl hrep
 ·cases h
theorem b7X {neq:Bool} {t:TypeId} {x y:Operand} {x' y':RA} (ht:P.underlying t=some .bool) (h1:i7 x x'=true) (h2:i7 y y'=true) (h:step σ nm ev (.eqb neq x' y')=some e):
 Good P B w0 I0 w I ι σ D nm e (do pure (.value (← (do eqGuard (if neq then .neq else .eql) t x y (ρ x) (ρ y);binOp (if neq then .neq else .eql) t (ρ x) (ρ y))))):=by
 simp only [step] at h
 split at h
 ·rename_i a b ha hb
  simp only [l7.of] at h;cases h
  have hE:(Op.equal t (.bool a) (.bool b)).run P w= .ok (a==b) w:=by
   unfold Op.equal Op.maxDepth
   rw [show (10000:Nat)=9999+1 from rfl]
   unfold Op.equalIn
   simp [i5 ht]
  refine f0 (v:=.bool (match neq with | true=>!(a==b) | false=>a==b)) hc ?_ rfl (.pv (.bool _))
  rw [a6Q hev h1 ha,a6Q hev h2 hb]
  cases neq
  ·simp [a6R,binOp,hE]
  ·simp [a6R,binOp,hE]
 ·cases h
theorem b5Z {x:Operand} {y:RA} {i:Nat} (h1:i7 x y=true) (h:step σ nm ev (.extract y i)=some e):
 Good P B w0 I0 w I ι σ D nm e (do pure (.value (← Instr.extract (ρ x) i))):=by
 simp only [step] at h
 have hx:=hev _ _ h1
 split at h
 ·rename_i vs hv
  split at h
  ·rename_i v hvi
   simp only [l7.of] at h;cases h
   rw [hv] at hx
   generalize ρ x=X at hx
   cases hx with
   | o0 hl hh=>
     rename_i cs
     have hlt:i<cs.size:=by rw [hl];exact (List.getElem?_eq_some_iff.1 hvi).1
     have hci:cs[i]?=some cs[i]:=Array.getElem?_eq_getElem hlt
     exact f0 (v:=cs[i]) hc (by simp [Instr.extract,hci]) rfl (hh i _ _ hci hvi)
  ·cases h
 ·rename_i ps hv
  split at h
  ·rename_i p hpi
   simp only [l7.of] at h;cases h
   rw [hv] at hx
   generalize ρ x=X at hx
   cases hx with
   | pv hx=>
     cases hx with
     | o0 hl hh=>
       rename_i cs
       have hlt:i<cs.size:=by rw [hl];exact (List.getElem?_eq_some_iff.1 hpi).1
       have hci:cs[i]?=some cs[i]:=Array.getElem?_eq_getElem hlt
       exact f0 (v:=cs[i]) hc (by simp [Instr.extract,hci]) rfl (.pv (hh i _ _ hci hpi))
  ·cases h
 ·cases h
end
end Go.Ab
namespace Go.Ab
open Go.RowKit
section
variable {P:Program} {B:Nat} {w0:World} {I0:v9} {w:World} {I:v9} {ι:Nat→Option Nat} {σ:b7} {D:Nat→Prop} {nm:Nat} {ρ:Operand→Value} {ev:RA→AV} {e:l7}
theorem a6V {v:Value} {a:AV} (h:e8 w I ι σ D v a) (ha:a.a2n=true):∃ cs,v= .agg cs∧cs.size=a.cells.length∧∀ (j:Nat) (x:Value) (q:AV),cs[j]?=some x→a.cells[j]?=some q→e8 w I ι σ D x q:=by
 have hu:a.a2N=false:=by cases a <;>simp_all [AV.a2n,AV.a2N]
 obtain ⟨h1,h2⟩:=a9Q h hu
 have:∃ cs,v= .agg cs:=by
  cases h with
  | pv h=>cases h <;>simp_all [AV.a2n]
  | agg hl h=>exact ⟨_,rfl⟩
  | _=>simp [AV.a2n] at ha
 obtain ⟨cs,rfl⟩:=this
 exact ⟨cs,rfl,h1,h2⟩
theorem c0y {agg:Bool} {cells:List AV} {av:AV} {vs:List Value} (h:a2y agg cells=some av) (hl:vs.length=cells.length)
 (hr:∀ (j:Nat) (x:Value) (q:AV),vs[j]?=some x→cells[j]?=some q→e8 w I ι σ D x q):
 (agg=true∧e8 w I ι σ D (.agg vs.toArray) av)∨(agg=false∧∃ x,vs=[x]∧e8 w I ι σ D x av):=by
 cases agg with
 | true=>
   simp only [a2y] at h;cases h
   exact .inl ⟨rfl,.agg (by simpa using hl) fun j x q hx hq=>hr j x q (by simpa using hx) hq⟩
 | false=>
   match cells,h with
   | [a],h=>
     simp only [a2y] at h;cases h
     match vs,hl with
     | [x],_=>exact .inr ⟨rfl,x,rfl,hr 0 x av rfl rfl⟩
theorem b5U {t n:Nat} {agg:Bool} {cells:List AV} {av:AV} {cs:Array Value} {off:Nat} (hs:n7 P t n=true) (hg:S8 P t agg=true)
 (h:a2y agg cells=some av) (hn:cells.length=n) (hlen:off+n≤cs.size)
 (hr:∀ (j:Nat) (x:Value) (q:AV),cs[off+j]?=some x→cells[j]?=some q→e8 w I ι σ D x q) (w₁:World):
 ∃ v,(part t cs off).run P w₁= .ok v w₁∧e8 w I ι σ D v av:=by
 have hvs:((cs.toList.drop off).take n).length=cells.length:=by simp;omega
 have hrr:∀ (j:Nat) (x:Value) (q:AV),((cs.toList.drop off).take n)[j]?=some x→cells[j]?=some q→e8 w I ι σ D x q:=by
  intro j x q hx hq
  have hj:j<n:=by have:=(List.getElem?_eq_some_iff.1 hq).1;omega
  rw [List.getElem?_take_of_lt hj,List.getElem?_drop] at hx
  exact hr j x q (by simpa using hx) hq
 rcases c0y h hvs hrr with ⟨rfl,h1⟩ | ⟨rfl,x,hx,h1⟩
 ·refine ⟨_,?_,h1⟩
  unfold part
  simp only [Sem.run_bind,T7 hg,Result.andThen_ok,if_true,x8 hs,Sem.run_pure]
  congr 2
  apply Array.ext'
  simp [Array.toList_extract,List.extract]
 ·refine ⟨x,?_,h1⟩
  have hn1:n=1:=by have:=congrArg List.length hx;rw [hvs,hn] at this;simpa using this
  subst hn1
  have:cs[off]?=some x:=by
   have h0:((cs.toList.drop off).take 1)[0]?=some x:=by rw [hx];rfl
   rw [List.getElem?_take_of_lt (by omega),List.getElem?_drop] at h0
   simpa using h0
  unfold part
  simp [T7 hg,this]
theorem a0w (r o k:Nat):(⟨r,o,none⟩:Addr).add k=⟨r,o+k,none⟩:=by
 unfold Addr.add;by_cases h:k=0 <;>simp [h]
theorem a2U {a:Addr} (h:a.spot=none) (k:Nat):a.add k=⟨a.block,a.off+k,none⟩:=by
 obtain ⟨b,o,s⟩:=a;cases h;exact a0w b o k
theorem a4a {t n:Nat} {agg:Bool} {cells:List AV} {av:AV} {r o:Nat} (hs:n7 P t n=true) (hg:S8 P t agg=true)
 (h:a2y agg cells=some av) (hn:cells.length=n)
 (hr:∀ (j:Nat) (q:AV),cells[j]?=some q→∃ x,w.cell? ⟨r,o+j,none⟩=some x∧e8 w I ι σ D x q):
 ∃ v,(loadVar t ⟨r,o,none⟩).run P w= .ok v w∧e8 w I ι σ D v av:=by
 let f:Nat→Value:=fun k=>(w.cell? ⟨r,o+k,none⟩).getD undef
 have hf:∀ j,j<n→w.cell? ⟨r,o+j,none⟩=some (f j):=by
  intro j hj
  obtain ⟨x,hx,_⟩:=hr j cells[j] (List.getElem?_eq_getElem (by omega))
  simp [f,hx]
 have hvs:((List.range n).map f).length=cells.length:=by simp [hn]
 have hrr:∀ (j:Nat) (x:Value) (q:AV),((List.range n).map f)[j]?=some x→cells[j]?=some q→e8 w I ι σ D x q:=by
  intro j x q hx hq
  obtain ⟨x',hx',hrep⟩:=hr j q hq
  have hj:j<n:=by have:=(List.getElem?_eq_some_iff.1 hq).1;omega
  simp [hj] at hx
  subst hx
  simpa [f,hx'] using hrep
 rcases c0y h hvs hrr with ⟨rfl,h1⟩ | ⟨rfl,x,hx,h1⟩
 ·refine ⟨_,?_,h1⟩
  unfold loadVar
  simp only [Sem.run_bind,T7 hg,Result.andThen_ok,if_true,x8 hs]
  rw [run_loadCells (w:=w) (⟨r,o,none⟩:Addr) n f (fun j hj=>by rw [a0w];exact hf j hj)]
  simp
 ·refine ⟨x,?_,h1⟩
  have hn1:n=1:=by have:=congrArg List.length hx;rw [hvs,hn] at this;simpa using this
  subst hn1
  have hx0:f 0=x:=by simpa using hx
  have:=hf 0 (by omega)
  rw [hx0] at this
  simp only [Nat.add_zero] at this
  unfold loadVar
  simp [T7 hg,this]
theorem P7 {b i:Nat} {o:d9} {row:List AV} (hs:z6 B w I ι σ D) (hf:find σ b=some o) (hrow:o.row? i=some row):
 ∃ (r:Nat) (c:Array Value) (T:TypeId) (fz:Nat × Nat),ι b=some r∧w.heap[r]?=some (Obj.cells c T fz)∧Fz c fz∧o.len*o.es≤c.size∧row.length=o.es∧
   ∀ j v,row[j]?=some v→∃ x,c[i*o.es+j]?=some x∧a6k w I ι σ D x v:=by
 have hob:=hs.obj b o hf
 have hlen:o.len≠0:=by
  intro h0
  cases o with
  | map ents=>simp [d9.row?] at hrow
  | arr e rs s=>
    simp only [d9.len] at h0
    have:rs=[]:=List.eq_nil_of_length_eq_zero h0
    subst this;simp [d9.row?] at hrow
  | box e rs s=>
    simp only [d9.len] at h0
    have:rs=[]:=List.eq_nil_of_length_eq_zero h0
    subst this;simp [d9.row?] at hrow
 have hR:D6 w I ι σ D b o:=by
  cases o with
  | map ents=>simp [d9.row?] at hrow
  | arr e rs s=>exact hob
  | box e rs s=>exact hob
 rcases hR with ⟨_,h0⟩ | ⟨r,c,T,fz,h1,h2,h3,h4,h5⟩
 ·exact absurd h0 hlen
 ·exact ⟨r,c,T,fz,h1,h2,h3,h4,(h5 i row hrow).1,(h5 i row hrow).2⟩
theorem cell_of {r o:Nat} {c:Array Value} {T:TypeId} {fz:Nat × Nat} (h:w.heap[r]?=some (Obj.cells c T fz)):w.cell? ⟨r,o,none⟩=c[o]?:=by
 simp [World.cell?,h]
variable (hc:Core B w0 I0 w I ι σ D) (hev:∀ o r,i7 o r=true→e8 w I ι σ D (ρ o) (ev r))
include hc hev
theorem c1f {x:Operand} {y:RA} {t n:Nat} {agg:Bool} (hs:n7 P t n=true) (hg:S8 P t agg=true) (h1:i7 x y=true)
 (h:step σ nm ev (.load agg n y)=some e):Good P B w0 I0 w I ι σ D nm e (do pure (.value (← Instr.loadAt t (ρ x)))):=by
 simp only [step] at h
 have hx:=hev _ _ h1
 split at h
 ·rename_i b i j hb
  split at h
  ·rename_i o ho
   split at h
   ·rename_i row hrow
    split at h
    ·rename_i hjn
     split at h
     ·rename_i v hv
      cases h
      rw [hb] at hx
      generalize ρ x=X at hx
      cases hx with
      | ptr hD hone hx=>
        obtain ⟨r,hr,rfl⟩:=hx o ho
        obtain ⟨r',c,T,fz,k1,k2,k3,k4,k5,k6⟩:=P7 hc.u6 ho hrow
        rw [hr] at k1;cases k1
        obtain ⟨v',hv',hrep⟩:=a4a (w:=w) (o:=i*o.es+j) (r:=r) hs hg hv (by simp;omega) (fun k q hq=>by
         have hk:k<n:=by have:=(List.getElem?_eq_some_iff.1 hq).1;simp at this;omega
         rw [List.getElem?_take_of_lt hk,List.getElem?_drop] at hq
         obtain ⟨x',hx',hrep⟩:=k6 (j+k) q hq
         exact ⟨x',by rw [cell_of k2,Nat.add_assoc];exact hx',hrep.2⟩)
        exact f0 hc (by simp [Instr.loadAt,Instr.sureAddr,hv']) rfl hrep
     ·cases h
    ·cases h
   ·cases h
  ·cases h
 ·rename_i cs hb
  split at h
  ·rename_i hn
   split at h
   ·rename_i v hv
    cases h
    rw [hb] at hx
    generalize ρ x=X at hx
    cases hx with
    | pv hx=>
      cases hx with
      | ref f ha hp hr=>
        rename_i a
        obtain ⟨ab,ao,as⟩:=a
        simp only at ha;subst ha
        obtain ⟨v',hv',hrep⟩:=a4a (w:=w) (I:=I) (ι:=ι) (σ:=σ) (D:=D) (o:=ao) (r:=ab) hs hg hv (by simp;omega) (fun k q hq=>by
         have hk:k<n:=by have:=(List.getElem?_eq_some_iff.1 hq).1;simp at this;omega
         simp only [List.getElem?_map,Option.map_eq_some_iff] at hq
         obtain ⟨q',hq',rfl⟩:=hq
         rw [List.getElem?_take_of_lt hk] at hq'
         exact ⟨f k,(hp k (by omega)).1,.pv (hr k q' hq')⟩)
        exact f0 hc (by simp [Instr.loadAt,Instr.sureAddr,hv']) rfl hrep
   ·cases h
  ·cases h
 ·cases h
theorem b9i {x:Operand} {y:RA} {t f n off:Nat} {agg:Bool} {fields:Array Field} {fd:Field} (ht:P.underlying t=some (.struct fields)) (hf:fields[f]?=some fd) (hoff:fd.offset=off)
 (hs:n7 P fd.type n=true) (hg:S8 P fd.type agg=true) (h1:i7 x y=true)
 (h:step σ nm ev (.field agg off n y)=some e):Good P B w0 I0 w I ι σ D nm e (do pure (.value (← Instr.field t (ρ x) f))):=by
 simp only [step,l7.of] at h
 have hx:=hev _ _ h1
 split at h
 ·rename_i hle
  split at h
  ·rename_i v hv
   cases h
   obtain ⟨cs,hcs,hsz,hrep⟩:=a6V hx hle.2
   obtain ⟨v',hv',hr'⟩:=b5U (w:=w) (cs:=cs) (off:=off) hs hg hv (by simp;omega) (by omega) (fun j x' q hx' hq=>by
    have hk:j<n:=by have:=(List.getElem?_eq_some_iff.1 hq).1;simp at this;omega
    rw [List.getElem?_take_of_lt hk,List.getElem?_drop] at hq
    exact hrep _ _ _ hx' hq) w
   subst hoff
   exact f0 hc (by rw [hcs];simp [Instr.field,i5 ht,hf,asAgg,hv']) rfl hr'
  ·cases h
 ·cases h
omit hc in
theorem a6X {x:Operand} {y:RA} {k:Int} (h1:i7 x y=true) (h:idxOf (ev y)=some k):∃ kk,ρ x= .int kk k:=by
 cases hy:ev y with
 | pv p=>
   cases p <;>rw [hy] at h <;>simp only [idxOf] at h <;>cases h
   rename_i kk
   exact ⟨kk,a9x hev h1 hy⟩
 | _=>rw [hy] at h;simp [idxOf] at h
theorem b9k {x ix:Operand} {y yi:RA} {t len es el:Nat} {agg:Bool} (ht:P.underlying t=some (.array len el)) (hs:n7 P el es=true) (hg:S8 P el agg=true) (h1:i7 x y=true) (h2:i7 ix yi=true)
 (h:step σ nm ev (.index agg len es y yi)=some e):Good P B w0 I0 w I ι σ D nm e (do pure (.value (← Instr.index t (ρ x) (ρ ix)))):=by
 simp only [step,l7.of] at h
 have hx:=hev _ _ h1
 split at h
 ·rename_i k hk
  obtain ⟨kk,hkk⟩:=a6X hev h2 hk
  split at h
  ·rename_i hle
   split at h
   ·rename_i v hv
    cases h
    obtain ⟨cs,hcs,hsz,hrep⟩:=a6V hx hle.2.2.2
    have hbound:k.toNat*es+es≤len*es:=by
     have:k.toNat+1≤len:=by omega
     calc k.toNat*es+es=(k.toNat+1)*es:=by rw [Nat.add_mul,Nat.one_mul]
      _≤len*es:=Nat.mul_le_mul_right _ this
    obtain ⟨v',hv',hr'⟩:=b5U (w:=w) (cs:=cs) (off:=k.toNat*es) hs hg hv (by simp;omega) (by omega) (fun j x' q hx' hq=>by
     have hk:j<es:=by have:=(List.getElem?_eq_some_iff.1 hq).1;simp at this;omega
     rw [List.getElem?_take_of_lt hk,List.getElem?_drop] at hq
     exact hrep _ _ _ hx' hq) w
    refine f0 hc ?_ rfl hr'
    rw [hcs,hkk]
    simp [Instr.index,asIntOf,i5 ht,hle.1,hle.2.1,x8 hs,hv']
   ·cases h
  ·cases h
 ·cases h
end
end Go.Ab
namespace Go.Ab
open Go.RowKit
section
variable {P:Program} {B:Nat} {w0:World} {I0:v9} {w:World} {I:v9} {ι:Nat→Option Nat} {σ:b7} {D:Nat→Prop} {nm:Nat} {ρ:Operand→Value} {ev:RA→AV} {e:l7}
variable (hc:Core B w0 I0 w I ι σ D) (hev:∀ o r,i7 o r=true→e8 w I ι σ D (ρ o) (ev r))
include hc hev
theorem b9h {x:Operand} {y:RA} {t f off n:Nat} {fields:Array Field} {fd:Field} (ht:P.underlying t=some (.struct fields)) (hf:fields[f]?=some fd) (hoff:fd.offset=off)
 (hs:n7 P fd.type n=true) (hn:n≠0) (h1:i7 x y=true) (h:step σ nm ev (.b0 y off)=some e):Good P B w0 I0 w I ι σ D nm e (do pure (.value (← Instr.fieldAt t (ρ x) f))):=by
 simp only [step,l7.of] at h
 have hx:=hev _ _ h1
 have hrun:∀ (a:Addr),(Instr.fieldAt t (.pointer (some a)) f).run P w= .ok (.pointer (some (a.add off))) w:=by
  intro a
  simp [Instr.fieldAt,i5 ht,hf,Instr.sureAddr,fieldPlace,x8 hs,hn,hoff]
 split at h
 ·rename_i b i j hb
  split at h
  ·rename_i o ho
   cases h
   rw [hb] at hx
   have hx':=hx
   generalize ρ x=X at hx
   cases hx with
   | ptr hD hone hx=>
     obtain ⟨r,hr,rfl⟩:=hx o ho
     refine f0 (v:=.pointer (some ⟨r,i*o.es+(j+off),none⟩)) hc ?_ rfl ?_
     ·simp only [Sem.run_bind,hrun,Result.andThen_ok,Sem.run_pure,a0w,Nat.add_assoc]
     ·refine .ptr hD rfl fun o' ho'=>?_
      rw [ho] at ho';cases ho'
      exact ⟨r,hr,rfl⟩
  ·cases h
 ·rename_i cs hb
  cases h
  rw [hb] at hx
  generalize ρ x=X at hx
  cases hx with
  | pv hx=>
    cases hx with
    | ref g ha hp hr=>
      rename_i a
      refine f0 (v:=.pointer (some (a.add off))) hc (by simp only [Sem.run_bind,hrun,Result.andThen_ok,Sem.run_pure]) rfl ?_
      rw [a2U ha]
      refine .pv (.ref (fun k=>g (off+k)) rfl (fun k hk=>?_) (fun k q hq=>?_))
      ·have:=hp (off+k) (by simp at hk;omega)
       rw [← Nat.add_assoc] at this
       exact this
      ·rw [List.getElem?_drop] at hq
       exact hr _ _ hq
 ·cases h
theorem b9j {x ix:Operand} {y yi:RA} {t el es:Nat} (ht:P.underlying t=some (.slice el)) (hs:n7 P el es=true) (h1:i7 x y=true) (h2:i7 ix yi=true)
 (h:step σ nm ev (.i6 es y yi)=some e):Good P B w0 I0 w I ι σ D nm e (do pure (.value (← Instr.indexAt t (ρ x) (ρ ix)))):=by
 simp only [step,step.iaddrP,l7.of] at h
 have hx:=hev _ _ h1
 have hrun:∀ (a:Addr) (n cap:Nat) (k:Int) (kk:IntKind),ρ ix= .int kk k→0≤k→k<n→(Instr.indexAt t (.slice (some a) n cap) (ρ ix)).run P w= .ok (.pointer (some (a.add (k.toNat*es)))) w:=by
  intro a n cap k kk hk h0 h1
  rw [hk]
  simp [Instr.indexAt,asIntOf,i5 ht,h0,h1,x8 hs]
 have pure_case:∀ (rows:List (List PV)) (n cap:Nat) (p:Option Addr) (k:Int) (kk:IntKind) (row:List PV),z5 w I (.slice p n cap) (.sl es rows)→ρ ix= .int kk k→0≤k→rows[k.toNat]?=some row→
  Good P B w0 I0 w I ι σ D nm {v:=.pv (.ref row)} (do pure (.value (← Instr.indexAt t (.slice p n cap) (ρ ix)))):=by
  intro rows n cap p k kk row hrep hK h0 hrow
  cases hrep with
  | sl f hl hcap hw hp hr=>
    have hlt:k.toNat<rows.length:=(List.getElem?_eq_some_iff.1 hrow).1
    obtain ⟨a,rfl,hsp,hcell⟩:=hp (by intro e;subst e;simp at hrow)
    refine f0 (v:=.pointer (some (a.add (k.toNat*es)))) hc ?_ rfl ?_
    ·simp only [Sem.run_bind,hrun a n cap k kk hK h0 (by omega),Result.andThen_ok,Sem.run_pure]
    ·rw [a2U hsp]
     refine .pv (.ref (fun j=>f k.toNat j) rfl (fun j hj=>?_) (fun j q hq=>hr k.toNat j row q hrow hq))
     have:=hcell k.toNat j hlt (by rw [← hw _ _ hrow];exact hj)
     rw [← Nat.add_assoc] at this
     exact this
 split at h
 ·rename_i k hk
  obtain ⟨kk,hkk⟩:=a6X hev h2 hk
  split at h
  ·rename_i b i n hb
   split at h
   ·rename_i o ho
    split at h
    ·rename_i hle
     cases h
     rw [hb] at hx
     generalize ρ x=X at hx
     cases hx with
     | own hD hone hx=>
       obtain ⟨p,cap,rfl,hin,hcap,hh⟩:=hx o ho
       rcases hh with ⟨h0,_⟩ | ⟨r,c,T,fz,hr,rfl,hheap,hsz⟩
       ·omega
       ·refine f0 (v:=.pointer (some ⟨r,(i+k.toNat)*o.es+0,none⟩)) hc ?_ rfl ?_
        ·simp only [Sem.run_bind,hrun _ n cap k kk hkk hle.1 hle.2.1,Result.andThen_ok,Sem.run_pure,a0w]
         rw [hle.2.2,Nat.add_mul,Nat.add_zero]
        ·refine .ptr hD rfl fun o' ho'=>?_
         rw [ho] at ho';cases ho'
         exact ⟨r,hr,rfl⟩
    ·cases h
   ·cases h
  ·rename_i es' rows hb
   split at h
   ·rename_i he
    subst he
    split at h
    ·rename_i h0
     split at h
     ·rename_i row hrow
      cases h
      rw [hb] at hx
      generalize ρ x=X at hx
      cases hx with
      | pv hx=>
        have hx2:=hx
        cases hx with
        | sl f a b c d e'=>exact pure_case rows _ _ _ k kk row hx2 hkk h0 hrow
     ·cases h
    ·cases h
   ·cases h
  ·rename_i es' rows hb
   split at h
   ·rename_i he
    subst he
    split at h
    ·rename_i h0
     split at h
     ·rename_i row hrow
      cases h
      rw [hb] at hx
      generalize ρ x=X at hx
      cases hx with
      | fsl hx=>exact pure_case rows _ _ _ k kk row hx hkk h0 hrow
     ·cases h
    ·cases h
   ·cases h
  ·cases h
 ·cases h
theorem c1l {x:Operand} {y:RA} {t ty el:TypeId} (ht:P.underlying t=some (.slice el)) (h1:i7 x y=true) (h:step σ nm ev (.l8 y)=some e):
 Good P B w0 I0 w I ι σ D nm e (do pure (.value (← Builtin.len_ #[t] ty #[ρ x]))):=by
 simp only [step,l7.of] at h
 have hx:=(hev _ _ h1).e
 have hrun:∀ (p:Option Addr) (n cap:Nat),(Builtin.len_ #[t] ty #[.slice p n cap]).run P w= .ok (.int .i64 n) w:=by
  intro p n cap
  unfold Builtin.len_
  simp [i5 ht,goInt]
 split at h
 ·rename_i b i n hb
  split at h
  ·rename_i o ho
   cases h
   rw [hb] at hx
   generalize ρ x=X at hx
   cases hx with
   | own hD hone hx=>
     obtain ⟨p,cap,rfl,_⟩:=hx o ho
     exact f0 (v:=.int .i64 n) hc (by simp only [Sem.run_bind,hrun p n cap,Result.andThen_ok,Sem.run_pure]) rfl (.pv (.int _ _))
  ·cases h
 ·rename_i es rows hb
  cases h
  rw [hb] at hx
  generalize ρ x=X at hx
  cases hx with
  | pv hx=>
    cases hx with
    | sl f hl a b c d=>
      subst hl
      exact f0 (v:=.int .i64 rows.length) hc (by simp only [Sem.run_bind,hrun,Result.andThen_ok,Sem.run_pure]) rfl (.pv (.int _ _))
 ·rename_i es rows hb
  cases h
  rw [hb] at hx
  generalize ρ x=X at hx
  cases hx with
  | fsl hx=>
    cases hx with
    | sl f hl a b c d=>
      subst hl
      exact f0 (v:=.int .i64 rows.length) hc (by simp only [Sem.run_bind,hrun,Result.andThen_ok,Sem.run_pure]) rfl (.pv (.int _ _))
 ·rename_i es hb
  cases h
  rw [hb] at hx
  generalize ρ x=X at hx
  cases hx with
  | emp p=>
    exact f0 (v:=.int .i64 0) hc (by simp only [Sem.run_bind,hrun,Result.andThen_ok,Sem.run_pure];rfl) rfl (.pv (.int _ _))
 ·cases h
theorem b7b {x ix:Operand} {y yi:RA} {t:Nat} (ht:P.underlying t=some .string) (h1:i7 x y=true) (h2:i7 ix yi=true)
 (h:step σ nm ev (.a8p y yi)=some e):Good P B w0 I0 w I ι σ D nm e (do pure (.value (← Instr.index t (ρ x) (ρ ix)))):=by
 simp only [step,l7.of] at h
 split at h
 ·rename_i s k hs hk
  obtain ⟨kk,hkk⟩:=a6X hev h2 hk
  split at h
  ·rename_i h0
   split at h
   ·rename_i b hb
    cases h
    refine f0 (v:=.int .u8 b.toNat) hc ?_ rfl (.pv (.int _ _))
    rw [a5P hev h1 hs,hkk]
    have hbb:(ByteArray.mk s.toArray)[k.toNat]?=some b:=by
     have hlt:k.toNat<s.length:=(List.getElem?_eq_some_iff.1 hb).1
     rw [getElem?_pos (ByteArray.mk s.toArray) k.toNat (by rw [a9B];exact hlt)]
     have:s[k.toNat]=b:=(List.getElem?_eq_some_iff.1 hb).2
     rw [← this];rfl
    simp [Instr.index,asIntOf,i5 ht,h0,hbb]
   ·cases h
  ·cases h
 ·cases h
end
end Go.Ab
namespace Go.Ab
open Go.RowKit
section
variable {P:Program} {B:Nat} {w0:World} {I0:v9} {w:World} {I:v9} {ι:Nat→Option Nat} {σ:b7} {D:Nat→Prop} {nm:Nat} {ρ:Operand→Value} {ev:RA→AV} {e:l7}
theorem Z2 {isSlice:Bool} {len cap m':Nat} {lo hi mx:Option Value} {l h:Int}
 (hlo:(lo=none∧l=0)∨∃ k,lo=some (.int k l)) (hhi:(hi=none∧h=len)∨∃ k,hi=some (.int k h))
 (hmx:(mx=none∧m'=cap)∨∃ k m,mx=some (.int k m)∧m'=m.toNat∧0≤m∧m≤cap) (hmh:hi=none→mx=none)
 (h0:0≤l) (h1:l≤h) (h2:h≤m') (w:World):(Instr.sliceBounds isSlice len cap lo hi mx).run P w= .ok (l.toNat,h.toNat,m') w:=by
 have sb:∀ (k:IntKind) (i:Int) (y:Nat) (code:BoundsCode),0≤i→i≤y→(Instr.sliceBound (.int k i) y code).run P w= .ok i.toNat w:=fun k i y code a b=>run_sliceBound rfl a b w
 unfold Instr.sliceBounds
 rcases hmx with ⟨rfl,rfl⟩ | ⟨k,m,rfl,rfl,hm0,hm1⟩
 ·rcases hhi with ⟨rfl,rfl⟩ | ⟨k,rfl⟩
  ·rcases hlo with ⟨rfl,rfl⟩ | ⟨k,rfl⟩
   ·simp
   ·simp [sb k l len _ h0 h1]
  ·rcases hlo with ⟨rfl,rfl⟩ | ⟨k',rfl⟩
   ·simp [sb k h m' _ h1 h2]
   ·simp [sb k h m' _ (by omega) h2,sb k' l h.toNat _ h0 (by omega)]
 ·rcases hhi with ⟨rfl,rfl⟩ | ⟨k',rfl⟩
  ·exact absurd (hmh rfl) (by simp)
  ·rcases hlo with ⟨rfl,rfl⟩ | ⟨k'',rfl⟩
   ·simp [sb k m cap _ hm0 hm1,sb k' h m.toNat _ h1 h2]
   ·simp [sb k m cap _ hm0 hm1,sb k' h m.toNat _ (by omega) h2,sb k'' l h.toNat _ h0 (by omega)]
theorem c4O {v:Value} {es:Nat} {rows:List (List PV)} (h:z5 w I v (.sl es rows)):∃ p n cap,v= .slice p n cap:=by cases h;exact ⟨_,_,_,rfl⟩
variable (hc:Core B w0 I0 w I ι σ D) (hev:∀ o r,i7 o r=true→e8 w I ι σ D (ρ o) (ev r))
include hc hev
omit hc in
theorem a0Z {o:Option Operand} {r:Option RA} {d i:Int} (hx:a7k o r=true) (h:j4 ev d r=some i):(o.map ρ=none∧i=d)∨∃ k,o.map ρ=some (.int k i):=by
 rcases b6N hev hx h with ⟨rfl,rfl⟩ | ⟨x,k,rfl,hk⟩
 ·exact .inl ⟨rfl,rfl⟩
 ·exact .inr ⟨k,by simp [hk]⟩
omit hc hev in
theorem b4D {o:Option Operand} {d m:Int} {cap:Nat} (h:(o.map ρ=none∧m=d)∨∃ k,o.map ρ=some (.int k m)) (h0:0≤m) (h1:m≤cap):
 ∃ m':Nat,((o.map ρ=none∧m'=cap)∨∃ k m,o.map ρ=some (.int k m)∧m'=m.toNat∧0≤m∧m≤cap)∧m≤m'∧m'≤cap∧(o≠none→(m':Int)=m):=by
 rcases h with ⟨h,rfl⟩ | ⟨k,h⟩
 ·exact ⟨cap,.inl ⟨h,rfl⟩,h1,Nat.le_refl _,fun hn=>by cases o <;>simp_all⟩
 ·exact ⟨m.toNat,.inr ⟨k,m,h,rfl,h0,h1⟩,by omega,by omega,fun _=>by omega⟩
theorem b9n {x:Operand} {y:RA} {lo hi mx:Option Operand} {lo' hi' mx':Option RA} {t el es:Nat} (ht:P.underlying t=some (.slice el)) (hs:n7 P el es=true)
 (h1:i7 x y=true) (hlo:a7k lo lo'=true) (hhi:a7k hi hi'=true) (hmx:a7k mx mx'=true) (hmh:hi=none→mx=none)
 (h:step σ nm ev (.slice es y lo' hi' mx')=some e):Good P B w0 I0 w I ι σ D nm e (do pure (.value (← Instr.sliceAt t (ρ x) (lo.map ρ) (hi.map ρ) (mx.map ρ)))):=by
 simp only [step,step.sliceP,l7.of] at h
 have hx:=(hev _ _ h1).e
 have hmh':hi.map ρ=none→mx.map ρ=none:=by
  intro hn;cases hi <;>simp_all
 have hrun:∀ (p:Option Addr) (n cap m':Nat) (l h:Int),(Instr.sliceBounds true n cap (lo.map ρ) (hi.map ρ) (mx.map ρ)).run P w= .ok (l.toNat,h.toNat,m') w→
  (Instr.sliceAt t (.slice p n cap) (lo.map ρ) (hi.map ρ) (mx.map ρ)).run P w= .ok (.slice (if m'=l.toNat then p else p.map (·.add (l.toNat*es))) (h.toNat - l.toNat) (m' - l.toNat)) w:=by
  intro p n cap m' l h hb
  simp [Instr.sliceAt,i5 ht,Instr.slice,hb,x8 hs]
 have pure_case:∀ (p:Option Addr) (n cap:Nat) (rows:List (List PV)) (l h m:Int),z5 w I (.slice p n cap) (.sl es rows)→j4 ev 0 lo'=some l→j4 ev rows.length hi'=some h→j4 ev rows.length mx'=some m→
  0≤l∧l≤h∧h≤m∧m≤rows.length→∃ (q:Option Addr) (k c:Nat),(Instr.sliceAt t (.slice p n cap) (lo.map ρ) (hi.map ρ) (mx.map ρ)).run P w= .ok (.slice q k c) w∧
   z5 w I (.slice q k c) (.sl es ((rows.take h.toNat).drop l.toNat))∧(mx'≠none→h=m→k=c):=by
  intro p n cap rows l h m hrep el eh em hle
  cases hrep with
  | sl f hl hcap hw hp hr=>
    subst hl
    obtain ⟨m',hm',hmm,hmc,hms⟩:=b4D (ρ:=ρ) (cap:=cap) (a0Z hev hmx em) (by omega) (by omega)
    have hb:=Z2 (P:=P) (isSlice:=true) (len:=rows.length) (cap:=cap) (a0Z hev hlo el) (a0Z hev hhi eh) hm' hmh' hle.1 hle.2.1 (by omega) w
    refine ⟨_,_,_,hrun p _ _ _ _ _ hb,?_,fun hne hhm=>?_⟩
    ·have hlen:((rows.take h.toNat).drop l.toNat).length=h.toNat - l.toNat:=by simp;omega
     have hget:∀ i,i<h.toNat - l.toNat→((rows.take h.toNat).drop l.toNat)[i]?=rows[l.toNat+i]?:=by
      intro i hi
      rw [List.getElem?_drop,List.getElem?_take_of_lt (by omega)]
     refine .sl (fun i j=>f (l.toNat+i) j) hlen (by omega) (fun i row hrow=>?_) (fun hne=>?_) (fun i j row q hrow hq=>?_)
     ·have hi:i<h.toNat - l.toNat:=by have:=(List.getElem?_eq_some_iff.1 hrow).1;omega
      rw [hget i hi] at hrow;exact hw _ _ hrow
     ·have hpos:0<h.toNat - l.toNat:=by rw [← hlen];exact List.length_pos_iff.2 hne
      obtain ⟨a,rfl,hsp,hcell⟩:=hp (by intro e;subst e;simp at hle hpos;omega)
      rw [if_neg (by omega)]
      refine ⟨a.add (l.toNat*es),rfl,by rw [a2U hsp],fun i j hi hj=>?_⟩
      rw [hlen] at hi
      rw [a2U hsp]
      have:=hcell (l.toNat+i) j (by omega) hj
      rw [Nat.add_mul,Nat.add_assoc,← Nat.add_assoc] at this
      exact this
     ·have hi:i<h.toNat - l.toNat:=by have:=(List.getElem?_eq_some_iff.1 hrow).1;omega
      rw [hget i hi] at hrow;exact hr _ _ _ _ hrow hq
    ·have hmo:mx≠none:=by intro e;subst e;cases mx' <;>simp_all [a7k]
     have:=hms hmo
     omega
 split at h
 ·rename_i b i n hb
  split at h
  ·rename_i o ho
   split at h
   ·rename_i l hh m el eh em
    split at h
    ·rename_i hle
     cases h
     rw [hb] at hx
     generalize ρ x=X at hx
     cases hx with
     | own hD hone hx=>
       obtain ⟨p,cap,rfl,hin,hcap,hcase⟩:=hx o ho
       have hml:m+i≤o.len:=by
        cases mx' with
        | none=>simp only [j4,Option.some.injEq] at em;omega
        | some x=>
          rcases hle.2.2.2.1 with h | h
          ·cases h
          ·omega
       obtain ⟨m',hm',hmm,hmc,hms⟩:=b4D (ρ:=ρ) (cap:=cap) (a0Z hev hmx em) (by omega) (by omega)
       have hbd:=Z2 (P:=P) (isSlice:=true) (len:=n) (cap:=cap) (a0Z hev hlo el) (a0Z hev hhi eh) hm' hmh' hle.1 hle.2.1 (by omega) w
       refine f0 (v:=.slice (if m'=l.toNat then p else p.map (·.add (l.toNat*es))) (hh.toNat - l.toNat) (m' - l.toNat)) hc (by simp only [Sem.run_bind,hrun p _ _ _ _ _ hbd,Result.andThen_ok,Sem.run_pure]) rfl ?_
       refine .own hD rfl fun o' ho'=>?_
       rw [ho] at ho';cases ho'
       have e1:hh.toNat - l.toNat=(hh - l).toNat:=by omega
       rw [e1]
       have hend:o.len≤i+m':=by
        rcases hm' with ⟨_,e⟩ | ⟨k,mm,hk,_⟩
        ·omega
        ·have hne:mx≠none:=by intro e;subst e;simp at hk
         have:=hms hne
         have hmo':m≤n:=by
          rcases hle.2.2.2.1 with h | h
          ·exfalso
           have hm0:mx'=none:=by simpa using h
           subst hm0
           cases mx with
           | none=>exact hne rfl
           | some x=>simp [a7k] at hmx
          ·exact h
         rcases hle.2.2.2.2.2 with hnone | hge
         ·exfalso
          have hm0:mx'=none:=by simpa using hnone
          subst hm0
          cases mx with
          | none=>exact hne rfl
          | some x=>simp [a7k] at hmx
         ·omega
       refine ⟨_,_,rfl,by omega,⟨by omega,by omega⟩,?_⟩
       rcases hcase with ⟨h0,h1⟩ | ⟨r,c,T,fz,hr,rfl,hheap,hsz⟩
       ·left;omega
       ·by_cases hml:m'=l.toNat
        ·left;omega
        ·right
         refine ⟨r,c,T,fz,hr,?_,hheap,?_⟩
         ·rw [if_neg hml]
          simp only [Option.map_some,a0w]
          rw [Nat.add_mul,hle.2.2.2.2.1]
         ·have:i+l.toNat+(m' - l.toNat)≤i+cap:=by omega
          exact Nat.le_trans (Nat.mul_le_mul_right _ this) hsz
    ·cases h
   ·cases h
  ·cases h
 ·rename_i es' rows hb
  split at h
  ·rename_i he
   subst he
   split at h
   ·rename_i l hh m el eh em
    split at h
    ·rename_i hle
     rw [hb] at hx
     generalize ρ x=X at hx
     cases hx with
     | pv hx=>
       obtain ⟨p,n,cap,rfl⟩:=c4O hx
       ·obtain ⟨q,k,c',hrun',hrep',hfull⟩:=pure_case p n cap rows l hh m hx el eh em hle
        have hG:Good P B w0 I0 w I ι σ D nm {v:=.pv (.sl es' ((rows.take hh.toNat).drop l.toNat))} (do pure (.value (← Instr.sliceAt t (.slice p n cap) (lo.map ρ) (hi.map ρ) (mx.map ρ)))):=
         f0 hc (by simp only [Sem.run_bind,hrun',Result.andThen_ok,Sem.run_pure]) rfl (.pv hrep')
        split at h
        ·split at h
         ·rename_i hhm
          cases h
          have:=hfull (by simp) hhm
          subst this
          exact f0 hc (by simp only [Sem.run_bind,hrun',Result.andThen_ok,Sem.run_pure]) rfl (.fsl hrep')
         ·cases h;exact hG
        ·cases h;exact hG
    ·cases h
   ·cases h
  ·cases h
 ·rename_i es' rows hb
  split at h
  ·rename_i he
   subst he
   split at h
   ·rename_i l hh m el eh em
    split at h
    ·rename_i hle
     rw [hb] at hx
     generalize ρ x=X at hx
     cases hx with
     | fsl hx=>
       rename_i p n
       obtain ⟨q,k,c',hrun',hrep',hfull⟩:=pure_case p n n rows l hh m hx el eh em hle
       have hG:Good P B w0 I0 w I ι σ D nm {v:=.pv (.sl es' ((rows.take hh.toNat).drop l.toNat))} (do pure (.value (← Instr.sliceAt t (.slice p n n) (lo.map ρ) (hi.map ρ) (mx.map ρ)))):=
        f0 hc (by simp only [Sem.run_bind,hrun',Result.andThen_ok,Sem.run_pure]) rfl (.pv hrep')
       split at h
       ·split at h
        ·rename_i hhm
         cases h
         have:=hfull (by simp) hhm
         subst this
         exact f0 hc (by simp only [Sem.run_bind,hrun',Result.andThen_ok,Sem.run_pure]) rfl (.fsl hrep')
        ·cases h;exact hG
       ·cases h;exact hG
    ·cases h
   ·cases h
  ·cases h
 ·rename_i es' hb
  split at h
  ·rename_i l hh m el eh em
   split at h
   ·rename_i hle
    cases h
    obtain ⟨rfl,rfl,rfl⟩:=hle
    rw [hb] at hx
    generalize ρ x=X at hx
    cases hx with
    | emp=>
      obtain ⟨m',hm',hmm,hmc,hms⟩:=b4D (ρ:=ρ) (cap:=0) (a0Z hev hmx em) (by omega) (by omega)
      have hbd:=Z2 (P:=P) (isSlice:=true) (len:=0) (cap:=0) (a0Z hev hlo el) (a0Z hev hhi eh) hm' hmh' (by omega) (by omega) (by omega) w
      have:m'=0:=by omega
      subst this
      refine f0 (v:=.slice none 0 0) hc ?_ rfl (.emp _)
      simp only [Sem.run_bind,hrun none _ _ _ _ _ hbd,Result.andThen_ok,Sem.run_pure]
      rfl
   ·cases h
  ·cases h
 ·cases h
theorem b7c {x:Operand} {y:RA} {lo hi:Option Operand} {lo' hi':Option RA} {t:Nat} (ht:P.underlying t=some .string)
 (h1:i7 x y=true) (hlo:a7k lo lo'=true) (hhi:a7k hi hi'=true)
 (h:step σ nm ev (.a4G y lo' hi')=some e):Good P B w0 I0 w I ι σ D nm e (do pure (.value (← Instr.sliceAt t (ρ x) (lo.map ρ) (hi.map ρ) none))):=by
 simp only [step,l7.of] at h
 split at h
 ·rename_i s hs
  split at h
  ·rename_i l hh el eh
   split at h
   ·rename_i hle
    cases h
    have hbd:=Z2 (P:=P) (isSlice:=false) (len:=s.length) (cap:=s.length) (m':=s.length) (mx:=none) (a0Z hev hlo el) (a0Z hev hhi eh) (.inl ⟨rfl,rfl⟩) (fun _=>rfl) hle.1 hle.2.1 (by omega) w
    refine f0 (v:=.string ((ByteArray.mk s.toArray).extract l.toNat hh.toNat)) hc ?_ rfl (.pv (.c1C ?_))
    ·rw [a5P hev h1 hs]
     simp [Instr.sliceAt,i5 ht,Instr.slice,a9B,hbd]
    ·simp [List.extract,List.drop_take]
   ·cases h
  ·cases h
 ·cases h
end
end Go.Ab
namespace Go.Ab
open Go.RowKit
section
variable {P:Program} {B:Nat} {w0:World} {I0:v9} {w:World} {I:v9} {ι:Nat→Option Nat} {σ:b7} {D:Nat→Prop} {nm:Nat} {ρ:Operand→Value} {ev:RA→AV} {e:l7}
def kindOk (P:Program) (t:TypeId) (k:Nat):Bool:=match P.underlying t with
 | some (.int _)=>k==0
 | some .bool=>k==1
 | some .string=>k==2
 | _=>false
def a0p (P:Program):List Field→List Nat→Nat→Bool
 | [],[],_=>true
 | f::fs,k::ks,j=>f.name != "_"&&f.offset==j&&kindOk P f.type k&&n7 P f.type 1&&S8 P f.type false&&a0p P fs ks (j+1)
 | _,_,_=>false
theorem b2B {t:TypeId} {k d:Nat} {a b:AV} {va vb:Value} {r:Bool} (hk:kindOk P t k=true) (h:a5f k a b=some r) (ha:e8 w I ι σ D va a) (hb:e8 w I ι σ D vb b) (w₁:World):
 (Op.equalIn (d+1) t va vb).run P w₁= .ok r w₁:=by
 unfold a5f at h
 split at h
 ·rw [a5y ha,a5y hb]
  split at h
  ·rename_i k₁ x k₂ y hkk
   subst hkk;cases h
   unfold kindOk at hk
   split at hk <;>simp_all [Op.equalIn,i5]
  ·cases h
 ·rw [a4T ha,a4T hb]
  cases h
  unfold kindOk at hk
  split at hk <;>simp_all [Op.equalIn,i5]
 ·rw [a2M ha,a2M hb]
  rename_i x y
  cases h
  unfold kindOk at hk
  have hb:((ByteArray.mk x.toArray)==(ByteArray.mk y.toArray))=(x==y):=by rw [beq_toListBytes,a9n]
  split at hk <;>simp_all [Op.equalIn,i5]
 ·cases h
theorem a9z {d:Nat} {xs ys:Array Value}:∀ (fs:List Field) (ks:List Nat) (j:Nat) (as bs:List AV) (r:Bool),a0p P fs ks j=true→a1N ks as bs=some r→
 (∀ i x q,xs[j+i]?=some x→as[i]?=some q→e8 w I ι σ D x q)→(∀ i x q,ys[j+i]?=some x→bs[i]?=some q→e8 w I ι σ D x q)→j+as.length≤xs.size→j+bs.length≤ys.size→
 ∀ w₁,(Op.eqFields (d+1) xs ys fs).run P w₁= .ok r w₁
 | [],[],j,as,bs,r,_,h,_,_,_,_,w₁=>by
   match as,bs,h with
   | [],[],h=>simp only [a1N] at h;cases h;simp [Op.eqFields]
 | f::fs,k::ks,j,as,bs,r,hf,h,hx,hy,lx,ly,w₁=>by
   match as,bs,h with
   | a::as,b::bs,h=>
     simp only [a1N] at h
     split at h
     ·rename_i x hs
      split at h
      ·rename_i y hc
       cases h
       simp only [a0p,Bool.and_eq_true,bne_iff_ne,ne_eq,beq_iff_eq] at hf
       obtain ⟨⟨⟨⟨⟨hn,ho⟩,hk⟩,hsz⟩,hag⟩,hrest⟩:=hf
       have jx:j<xs.size:=by simp at lx;omega
       have jy:j<ys.size:=by simp at ly;omega
       have gx:xs[j]?=some xs[j]:=Array.getElem?_eq_getElem jx
       have gy:ys[j]?=some ys[j]:=Array.getElem?_eq_getElem jy
       have px:(part f.type xs f.offset).run P w₁= .ok xs[j] w₁:=by unfold part;simp [T7 hag,ho,gx]
       have py:(part f.type ys f.offset).run P w₁= .ok ys[j] w₁:=by unfold part;simp [T7 hag,ho,gy]
       have he:=b2B (P:=P) (t:=f.type) (d:=d) hk hs (hx 0 _ a gx rfl) (hy 0 _ b gy rfl) w₁
       have ih:=a9z (d:=d) fs ks (j+1) as bs y hrest hc (fun i x q h1 h2=>hx (i+1) x q (by rw [← h1];congr 1;omega) (by simpa using h2))
        (fun i x q h1 h2=>hy (i+1) x q (by rw [← h1];congr 1;omega) (by simpa using h2)) (by simp at lx;omega) (by simp at ly;omega) w₁
       rw [Op.eqFields,if_pos hn]
       simp only [Sem.run_bind,px,py,he,Result.andThen_ok]
       cases x
       ·simp
       ·simpa using ih
      ·cases h
     ·cases h
 | [],_::_,_,_,_,_,hf,_,_,_,_,_,_=>by simp [a0p] at hf
 | _::_,[],_,_,_,_,hf,_,_,_,_,_,_=>by simp [a0p] at hf
theorem run_eqGuard_agg {op:BinOp} {t:TypeId} {x y:Operand} {xs ys:Array Value} (hg:P.eqGuardType P.depth t=false):(eqGuard op t x y (.agg xs) (.agg ys)).run P w= .ok () w:=by
 unfold eqGuard
 simp [hg]
variable (hc:Core B w0 I0 w I ι σ D) (hev:∀ o r,i7 o r=true→e8 w I ι σ D (ρ o) (ev r))
include hc hev
theorem b7Y {neq:Bool} {kinds:List Nat} {t:TypeId} {x y:Operand} {x' y':RA} {fields:Array Field} (ht:P.underlying t=some (.struct fields)) (hp:P.stoodInHeld t=false) (hgd:P.eqGuardType P.depth t=false)
 (hf:a0p P fields.toList kinds 0=true) (h1:i7 x x'=true) (h2:i7 y y'=true) (h:step σ nm ev (.eqs neq kinds x' y')=some e):
 Good P B w0 I0 w I ι σ D nm e (do pure (.value (← (do eqGuard (if neq then .neq else .eql) t x y (ρ x) (ρ y);binOp (if neq then .neq else .eql) t (ρ x) (ρ y))))):=by
 simp only [step] at h
 split at h
 ·rename_i b hb
  split at h
  ·rename_i hag
   simp only [l7.of] at h;cases h
   obtain ⟨xs,ex,sx,rx⟩:=a6V (hev _ _ h1) hag.1
   obtain ⟨ys,ey,sy,ry⟩:=a6V (hev _ _ h2) hag.2
   have hfo:P.fieldsOf t=fields:=by simp [Program.fieldsOf,ht]
   have hE:(Op.equal t (.agg xs) (.agg ys)).run P w= .ok b w:=by
    unfold Op.equal Op.maxDepth
    rw [show (10000:Nat)=9999+1 from rfl,run_equalIn_struct (P:=P) w 9999 t xs ys (by rw [hfo];exact ht) hp,hfo]
    exact a9z (d:=9998) fields.toList kinds 0 _ _ b hf hb (fun i x q h1 h2=>rx i x q (by simpa using h1) h2) (fun i x q h1 h2=>ry i x q (by simpa using h1) h2) (by omega) (by omega) w
   refine f0 (v:=.bool (match neq with | true=>!b | false=>b)) hc ?_ rfl (.pv (.bool _))
   rw [ex,ey]
   cases neq
   ·simp [run_eqGuard_agg hgd,binOp,hE]
   ·simp [run_eqGuard_agg hgd,binOp,hE]
  ·cases h
 ·cases h
omit hc hev in
theorem b0R {d:Nat} {el k:Nat} {xs ys:Array Value} (hk:kindOk P el k=true) (hag:S8 P el false=true):∀ (n j:Nat) (as bs:List AV) (r:Bool),a1N (List.replicate n k) as bs=some r→
 (∀ i x q,xs[j+i]?=some x→as[i]?=some q→e8 w I ι σ D x q)→(∀ i x q,ys[j+i]?=some x→bs[i]?=some q→e8 w I ι σ D x q)→j+as.length≤xs.size→j+bs.length≤ys.size→
 ∀ w₁,(Op.eqItems (d+1) el 1 xs ys (List.range' j n)).run P w₁= .ok r w₁
 | 0,j,as,bs,r,h,_,_,_,_,w₁=>by
   match as,bs,h with
   | [],[],h=>simp only [List.replicate,a1N] at h;cases h;simp [Op.eqItems]
 | n+1,j,as,bs,r,h,hx,hy,lx,ly,w₁=>by
   match as,bs,h with
   | a::as,b::bs,h=>
     simp only [List.replicate,a1N] at h
     split at h
     ·rename_i x hs
      split at h
      ·rename_i y hc
       cases h
       have jx:j<xs.size:=by simp at lx;omega
       have jy:j<ys.size:=by simp at ly;omega
       have gx:xs[j]?=some xs[j]:=Array.getElem?_eq_getElem jx
       have gy:ys[j]?=some ys[j]:=Array.getElem?_eq_getElem jy
       have px:(part el xs (j*1)).run P w₁= .ok xs[j] w₁:=by unfold part;simp [T7 hag,gx]
       have py:(part el ys (j*1)).run P w₁= .ok ys[j] w₁:=by unfold part;simp [T7 hag,gy]
       have he:=b2B (P:=P) (t:=el) (d:=d) hk hs (hx 0 _ a gx rfl) (hy 0 _ b gy rfl) w₁
       have ih:=b0R (d:=d) hk hag n (j+1) as bs y hc (fun i x q h1 h2=>hx (i+1) x q (by rw [← h1];congr 1;omega) (by simpa using h2))
        (fun i x q h1 h2=>hy (i+1) x q (by rw [← h1];congr 1;omega) (by simpa using h2)) (by simp at lx;omega) (by simp at ly;omega) w₁
       show (Op.eqItems (d+1) el 1 xs ys (j::List.range' (j+1) n)).run P w₁=_
       simp only [Op.eqItems,Sem.run_bind,px,py,he,Result.andThen_ok]
       cases x
       ·simp
       ·simpa using ih
      ·cases h
     ·cases h
theorem b7W {neq:Bool} {k len el:Nat} {t:TypeId} {x y:Operand} {x' y':RA} {ie:TypeInfo} (ht:P.underlying t=some (.array len el)) (hgd:P.eqGuardType P.depth t=false)
 (hi:P.info? el=some ie) (hsz:ie.size=1) (hk:kindOk P el k=true) (hag:S8 P el false=true) (h1:i7 x x'=true) (h2:i7 y y'=true) (h:step σ nm ev (.eqs neq (List.replicate len k) x' y')=some e):
 Good P B w0 I0 w I ι σ D nm e (do pure (.value (← (do eqGuard (if neq then .neq else .eql) t x y (ρ x) (ρ y);binOp (if neq then .neq else .eql) t (ρ x) (ρ y))))):=by
 simp only [step] at h
 split at h
 ·rename_i b hb
  split at h
  ·rename_i hagg
   simp only [l7.of] at h;cases h
   obtain ⟨xs,ex,sx,rx⟩:=a6V (hev _ _ h1) hagg.1
   obtain ⟨ys,ey,sy,ry⟩:=a6V (hev _ _ h2) hagg.2
   have hco:P.cellsOf el=1:=by simp [Program.cellsOf,hi,hsz]
   have hE:(Op.equal t (.agg xs) (.agg ys)).run P w= .ok b w:=by
    unfold Op.equal Op.maxDepth
    rw [show (10000:Nat)=9999+1 from rfl,run_equalIn_array (P:=P) w 9999 xs ys ht hi,hco,List.range_eq_range']
    exact b0R (d:=9998) hk hag len 0 _ _ b hb (fun i x q h1 h2=>rx i x q (by simpa using h1) h2) (fun i x q h1 h2=>ry i x q (by simpa using h1) h2) (by omega) (by omega) w
   refine f0 (v:=.bool (match neq with | true=>!b | false=>b)) hc ?_ rfl (.pv (.bool _))
   rw [ex,ey]
   cases neq
   ·simp [run_eqGuard_agg hgd,binOp,hE]
   ·simp [run_eqGuard_agg hgd,binOp,hE]
  ·cases h
 ·cases h
theorem b3P {neq:Bool} {t el:Nat} {x y:Operand} {x':RA} (ht:P.underlying t=some (.slice el)) (h1:i7 x x'=true) (hy:ρ y= .slice none 0 0) (h:step σ nm ev (.a9c neq x')=some e):
 Good P B w0 I0 w I ι σ D nm e (do pure (.value (← (do eqGuard (if neq then .neq else .eql) t x y (ρ x) (ρ y);binOp (if neq then .neq else .eql) t (ρ x) (ρ y))))):=by
 have hx:=(hev _ _ h1).e
 have hrun:∀ (p:Option Addr) (n cap:Nat),ρ x= .slice p n cap→(do pure (.value (← (do eqGuard (if neq then .neq else .eql) t x y (ρ x) (ρ y);binOp (if neq then .neq else .eql) t (ρ x) (ρ y)))):Sem Next).run P w= .ok (.value (.bool (match neq with | true=>!p.isNone | false=>p.isNone))) w:=by
  intro p n cap e
  rw [e,hy]
  have hE:(Op.equal t (.slice p n cap) (.slice none 0 0)).run P w= .ok p.isNone w:=by
   have gen:∀ d,(Op.equalIn (d+1) t (.slice p n cap) (.slice none 0 0)).run P w= .ok p.isNone w:=by
    intro d
    cases p <;>simp [Op.equalIn,i5 ht]
   exact gen 9999
  cases neq <;>simp [eqGuard,binOp,hE]
 have hany:∀ (p:Option Addr) (n cap:Nat),ρ x= .slice p n cap→e={v:=.O5}∨(∃ rd,e={v:=.O5,rd:=rd})→Good P B w0 I0 w I ι σ D nm e (do pure (.value (← (do eqGuard (if neq then .neq else .eql) t x y (ρ x) (ρ y);binOp (if neq then .neq else .eql) t (ρ x) (ρ y))))):=by
  intro p n cap hp he
  have:e.up=[]∧e.v= .O5:=by rcases he with rfl | ⟨rd,rfl⟩ <;>exact ⟨rfl,rfl⟩
  exact f0 hc (hrun p n cap hp) this.1 (by rw [this.2];exact .O5 _)
 have hsome:∀ (a:Addr) (n cap:Nat),ρ x= .slice (some a) n cap→e.up=[]→e.v= .pv (.bool neq)→Good P B w0 I0 w I ι σ D nm e (do pure (.value (← (do eqGuard (if neq then .neq else .eql) t x y (ρ x) (ρ y);binOp (if neq then .neq else .eql) t (ρ x) (ρ y))))):=by
  intro a n cap hp hu hv
  refine f0 hc (hrun (some a) n cap hp) hu ?_
  rw [hv]
  cases neq <;>exact .pv (.bool _)
 have hpure:∀ {es:Nat} {rows:List (List PV)},z5 w I (ρ x) (.sl es rows)→(match rows with | []=>l7.of .O5 | _::_=>l7.of (.pv (.bool neq)))=some e→Good P B w0 I0 w I ι σ D nm e (do pure (.value (← (do eqGuard (if neq then .neq else .eql) t x y (ρ x) (ρ y);binOp (if neq then .neq else .eql) t (ρ x) (ρ y))))):=by
  intro es rows hr h
  generalize hX:ρ x=X at hr
  cases hr with
  | sl f hl hcap hw hp hrr=>
    cases rows with
    | nil=>simp only [l7.of] at h;cases h;exact hX ▸ hany _ _ _ hX (.inl rfl)
    | cons r rs=>
      simp only [l7.of] at h;cases h
      obtain ⟨a,rfl,_⟩:=hp (by simp)
      exact hX ▸ hsome a _ _ hX rfl rfl
 simp only [step] at h
 split at h
 ·rename_i es he
  rw [he] at hx
  generalize hX:ρ x=X at hx
  cases hx with
  | emp=>
    simp only [l7.of] at h;cases h
    rw [← hX]
    refine f0 hc (hrun none 0 0 hX) rfl ?_
    cases neq <;>exact .pv (.bool _)
 ·rename_i es rows he
  rw [he] at hx
  generalize hX:ρ x=X at hx
  cases hx with
  | fsl hx=>exact hX ▸ hpure (hX ▸ hx) h
 ·rename_i es rows he
  rw [he] at hx
  have hx':z5 w I (ρ x) (.sl es rows):=by
   generalize ρ x=X at hx
   cases hx with
   | pv hx=>exact hx
  exact hpure hx' h
 ·rename_i b i n he
  rw [he] at hx
  split at h
  ·rename_i o hf
   generalize hX:ρ x=X at hx
   cases hx with
   | own hD hone hx=>
     obtain ⟨p,cap,rfl,hin,hcap,hcase⟩:=hx o hf
     split at h
     ·cases h;exact hX ▸ hany _ _ _ hX (.inr ⟨_,rfl⟩)
     ·cases h
      rcases hcase with ⟨h0,_⟩ | ⟨r,c,T,fz,hr,rfl,hheap,hsz⟩
      ·omega
      ·exact hX ▸ hsome _ _ _ hX rfl rfl
  ·cases h
 ·cases h
end
end Go.Ab
namespace Go.Ab
open Go.RowKit
section
variable {P:Program} {B:Nat} {w0:World} {I0:v9} {w:World} {I:v9} {ι:Nat→Option Nat} {σ:b7} {D:Nat→Prop} {nm:Nat} {ρ:Operand→Value} {ev:RA→AV} {e:l7}
def K6 (w:World) (I:v9) (ι:Nat→Option Nat) (σ:b7) (D:Nat→Prop) (c:Array Value) (as:List AV):Prop:=
 c.size=as.length∧∀ (j:Nat) (x:Value) (q:AV),c[j]?=some x→as[j]?=some q→e8 w I ι σ D x q
theorem a9A {row cs:List AV} {j:Nat} (h:j+cs.length≤row.length) (k:Nat):(F3 row j cs)[k]?=if j≤k∧k<j+cs.length then cs[k - j]? else row[k]?:=by
 unfold F3
 have hl:(row.take j).length=j:=by simp;omega
 by_cases h1:k<j
 ·rw [if_neg (by omega),List.append_assoc,List.getElem?_append_left (by omega),List.getElem?_take_of_lt h1]
 ·by_cases h2:k<j+cs.length
  ·rw [if_pos ⟨by omega,h2⟩,List.append_assoc,List.getElem?_append_right (by omega),hl,List.getElem?_append_left (by omega)]
  ·rw [if_neg (by omega),List.getElem?_append_right (by simp;omega),List.getElem?_drop]
   congr 1;simp;omega
theorem Z4 {row cs:List AV} {j:Nat} (h:j+cs.length≤row.length):(F3 row j cs).length=row.length:=by
 simp [F3];omega
theorem b2A {place:Nat→Option (Nat × Nat)}:∀ (ps:List (Nat × Value)) (qs:List (Nat × Nat × AV)) (c:Array Value) (as:List AV) (r:List AV),
 ps.length=qs.length→(∀ (i k:Nat) (v:Value) (o n:Nat) (a:AV),ps[i]?=some (k,v)→qs[i]?=some (o,n,a)→place k=some (o,n)∧n≠0∧e8 w I ι σ D v a)→
 K6 w I ι σ D c as→a6t as qs=some r→∃ c',Instr.fill place c ps=some c'∧K6 w I ι σ D c' r
 | [],[],c,as,r,_,_,hc,h=>by simp only [a6t] at h;cases h;exact ⟨c,rfl,hc⟩
 | (k,v)::ps,(o,n,a)::qs,c,as,r,hl,hp,hc,h=>by
   simp only [a6t] at h
   split at h
   ·rename_i hn
    obtain ⟨hpl,hn0,hrep⟩:=hp 0 k v o n a rfl rfl
    have hu:a.a2N=false:=by
     cases a <;>simp_all [AV.a2N,AV.cells]
    obtain ⟨s1,s2⟩:=a9Q hrep hu
    have hsz:v.cells.size=n:=by omega
    obtain ⟨f1,f2⟩:=Go.Great.foldl_set o v.cells.toList 0 c
    have hz:v.cells.zipIdx.foldl (fun cs (x:Value × Nat)=>cs.setIfInBounds (o+x.2) x.1) c=(v.cells.toList.zipIdx 0).foldl (fun cs (x:Value × Nat)=>cs.setIfInBounds (o+x.2) x.1) c:=by
     rw [← Array.foldl_toList];simp
    have hc':K6 w I ι σ D (v.cells.zipIdx.foldl (fun cs (x:Value × Nat)=>cs.setIfInBounds (o+x.2) x.1) c) (F3 as o a.cells):=by
     rw [hz]
     refine ⟨by rw [f1,Z4 (by omega)];exact hc.1,fun j x q hx hq=>?_⟩
     rw [f2] at hx
     rw [a9A (by omega)] at hq
     have hcs:=hc.1
     by_cases hj:o≤j∧j<o+a.cells.length
     ·rw [if_pos hj] at hq
      rw [if_pos (by simp only [Nat.add_zero,Array.length_toList];omega)] at hx
      simp only [Nat.add_zero,Array.getElem?_toList] at hx
      exact s2 _ _ _ hx hq
     ·rw [if_neg hj] at hq
      rw [if_neg (by simp only [Nat.add_zero,Array.length_toList];omega)] at hx
      exact hc.2 _ _ _ hx hq
    obtain ⟨c',h1,h2⟩:=b2A ps qs _ _ r (by simpa using hl) (fun i k v o n a e1 e2=>hp (i+1) k v o n a (by simpa using e1) (by simpa using e2)) hc' h
    refine ⟨c',?_,h2⟩
    simp only [Instr.fill,hpl]
    rw [if_neg (by have:=hc.1;simp [hsz];omega)]
    exact h1
   ·cases h
 | [],_::_,_,_,_,hl,_,_,_=>by simp at hl
 | _::_,[],_,_,_,hl,_,_,_=>by simp at hl
def a0M (P:Program) (place:Nat→Option (Nat × Nat)):List (Nat × Operand)→List (Nat × Nat × RA)→Bool
 | [],[]=>true
 | (k,x)::l,(o,n,y)::m=>(match place k with | some (o',n')=>o==o'&&n==n' | none=>false)&&n != 0&&i7 x y&&a0M P place l m
 | _,_=>false
theorem a1Y {z:Value} {zs:List AV} (h:a5U z.cells.toList zs=true):K6 w I ι σ D z.cells zs:=by
 obtain ⟨h1,h2⟩:=a9T (w:=w) (I:=I) (ι:=ι) (σ:=σ) (D:=D) h
 exact ⟨by simpa using h1,fun j x q hx hq=>h2 j x q (by simpa using hx) hq⟩
def placesOf (P:Program) (t:TypeId):Nat→Option (Nat × Nat):=match P.underlying t with
 | some (.struct fields)=>fun i=>(fields[i]?).bind fun f=>(P.info? f.type).map fun j=>(f.offset,j.size)
 | some (.array _ el)=>fun i=>(P.info? el).map fun j=>(i*j.size,j.size)
 | _=>fun _=>none
def b4s (P:Program) (t:TypeId):Bool:=match P.underlying t with
 | some (.struct fields)=>fields.all fun f=>(P.info? f.type).isSome
 | some (.array _ el)=>(P.info? el).isSome
 | _=>false
theorem a4o (hev:∀ o r,i7 o r=true→e8 w I ι σ D (ρ o) (ev r)) {place:Nat→Option (Nat × Nat)}:∀ (l:List (Nat × Operand)) (m:List (Nat × Nat × RA)),a0M P place l m=true→
 (l.map fun p=>(p.1,ρ p.2)).length=(m.map fun (o,n,x)=>(o,n,ev x)).length∧
 ∀ (i k:Nat) (v:Value) (o n:Nat) (a:AV),(l.map fun p=>(p.1,ρ p.2))[i]?=some (k,v)→(m.map fun (o,n,x)=>(o,n,ev x))[i]?=some (o,n,a)→place k=some (o,n)∧n≠0∧e8 w I ι σ D v a
 | [],[],_=>⟨rfl,fun i k v o n a h=>by simp at h⟩
 | (k,x)::l,(o,n,y)::m,h=>by
   simp only [a0M,Bool.and_eq_true,bne_iff_ne,ne_eq] at h
   obtain ⟨⟨⟨h1,h2⟩,h3⟩,h4⟩:=h
   obtain ⟨e1,e2⟩:=a4o hev l m h4
   refine ⟨by simpa using e1,fun i k' v o' n' a g1 g2=>?_⟩
   cases i with
   | zero=>
     simp only [List.map_cons,List.getElem?_cons_zero,Option.some.injEq,Prod.mk.injEq] at g1 g2
     obtain ⟨rfl,rfl⟩:=g1
     obtain ⟨rfl,rfl,rfl⟩:=g2
     refine ⟨?_,h2,hev _ _ h3⟩
     split at h1
     ·rename_i o' n' hpl
      simp only [Bool.and_eq_true,beq_iff_eq] at h1
      rw [hpl,h1.1,h1.2]
     ·cases h1
   | succ i=>
     simp only [List.map_cons,List.getElem?_cons_succ] at g1 g2
     exact e2 i k' v o' n' a g1 g2
 | [],_::_,h=>by simp [a0M] at h
 | _::_,[],h=>by simp [a0M] at h
variable (hc:Core B w0 I0 w I ι σ D) (hev:∀ o r,i7 o r=true→e8 w I ι σ D (ρ o) (ev r))
include hc hev
theorem b9f {t:TypeId} {zeros:List AV} {parts:Array (Nat × Operand)} {parts':List (Nat × Nat × RA)} (hz:Z0 P t zeros=true) (hi:b4s P t=true)
 (hp:a0M P (placesOf P t) parts.toList parts'=true) (h:step σ nm ev (.build zeros parts')=some e):
 Good P B w0 I0 w I ι σ D nm e (do pure (.value (← Instr.build t (parts.map fun (i,x)=>(i,ρ x))))):=by
 simp only [step,l7.of] at h
 split at h
 ·rename_i cs hcs
  cases h
  obtain ⟨z,hzr,hzc⟩:=a5e hz w
  obtain ⟨e1,e2⟩:=a4o (P:=P) hev _ _ hp
  obtain ⟨c',hf,hrep⟩:=b2A (place:=placesOf P t) _ _ z.cells zeros cs e1 e2 (a1Y hzc) hcs
  have hlist:(parts.map fun (i,x)=>(i,ρ x)).toList=parts.toList.map fun p=>(p.1,ρ p.2):=by simp
  refine f0 (v:=.agg c') hc ?_ rfl (.agg hrep.1 hrep.2)
  unfold Instr.build
  unfold placesOf at hf
  unfold b4s at hi
  simp only [Sem.run_bind,hzr,Result.andThen_ok]
  cases hu:P.underlying t with
  | none=>rw [hu] at hi;cases hi
  | some d=>
    rw [hu] at hi hf
    cases d <;>simp only [Bool.false_eq_true] at hi
    case array len el=>
     simp only [i5 hu,Result.andThen_ok]
     obtain ⟨j,hj⟩:=Option.isSome_iff_exists.1 hi
     have hs:(sizeOf el).run P w= .ok j.size w:=by simp [sizeOf,typeInfo,hj]
     simp only [Sem.run_bind,hs,Result.andThen_ok,hlist]
     have:(fun i=>some (i*j.size,j.size))=fun i=>(P.info? el).map fun j=>(i*j.size,j.size):=by funext i;simp [hj]
     rw [this,hf]
     simp
    case struct fields=>
     simp only [i5 hu,Result.andThen_ok]
     have hm:(fields.mapM fun f=>(Prod.mk f.offset<$>sizeOf f.type:Sem (Nat × Nat))).run P w= .ok (fields.map fun f=>(f.offset,P.cellsOf f.type)) w:=by
      rw [Array.mapM_eq_mapM_toList]
      have:∀ l:List Field,(∀ f ∈ l,(P.info? f.type).isSome=true)→(l.mapM fun f=>(Prod.mk f.offset<$>sizeOf f.type:Sem (Nat × Nat))).run P w= .ok (l.map fun f=>(f.offset,P.cellsOf f.type)) w:=by
       intro l
       induction l with
       | nil=>intro _;simp
       | cons f l ih=>
         intro hl
         obtain ⟨j,hj⟩:=Option.isSome_iff_exists.1 (hl f (by simp))
         have hs:(sizeOf f.type).run P w= .ok j.size w:=by simp [sizeOf,typeInfo,hj]
         have ih':=ih (fun g hg=>hl g (by simp [hg]))
         rw [List.mapM_cons]
         simp only [Sem.run_bind,Sem.run_map,hs,Result.andThen_ok,ih',Sem.run_pure]
         simp [Program.cellsOf,hj]
      simp only [Sem.run_map]
      rw [this fields.toList (fun f hf=>by
       have:=(Array.all_eq_true_iff_forall_mem.1 hi) f (by simpa using hf)
       exact this)]
      simp only [Result.andThen_ok]
      congr 1
      apply Array.ext';simp
     have hm':(fields.mapM fun f=>(do pure (f.offset,← sizeOf f.type):Sem (Nat × Nat))).run P w= .ok (fields.map fun f=>(f.offset,P.cellsOf f.type)) w:=by
      have:(fun f:Field=>(do pure (f.offset,← sizeOf f.type):Sem (Nat × Nat)))=fun f=>Prod.mk f.offset<$>sizeOf f.type:=by funext f;simp
      rw [this];exact hm
     simp only [Sem.run_bind,hm',Result.andThen_ok,hlist]
     have:(fun (i:Nat)=>(fields.map fun f=>(f.offset,P.cellsOf f.type))[i]?)=fun (i:Nat)=>(fields[i]?).bind fun (f:Field)=>(P.info? f.type).map fun j=>(f.offset,j.size):=by
      funext i
      rw [Array.getElem?_map]
      cases hfi:fields[i]? with
      | none=>rfl
      | some f=>
        obtain ⟨j,hj⟩:=Option.isSome_iff_exists.1 ((Array.all_eq_true_iff_forall_mem.1 hi) f (Array.mem_of_getElem? hfi))
        simp [Program.cellsOf,hj]
     simp only at hf
     rw [← this] at hf
     rw [hf]
     simp
 ·cases h
end
end Go.Ab
