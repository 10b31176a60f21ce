/- A part of the proof: the texts Ab0, Ab1. Under: nothing. -/
import Derived.CallsIn
import Derived.Laws.World
import Derived.Laws.Sem
import Derived.Below
set_option linter.unusedVariables false
namespace Go.Ab
inductive PV where
 | bool (b:Bool)
 | int (k:IntKind) (n:Int)
 | str (s:List UInt8)
 | sl (es:Nat) (rows:List (List PV))
 | agg (cs:List PV)
 | p7 (vs:List PV)
 | func (fn:Fn) (first caps:List PV)
 | nilFunc
 | ref (cs:List PV)
 | emp (es:Nat)
 deriving Inhabited
inductive AV where
 | pv (p:PV)
 | emp (es:Nat)
 | fsl (es:Nat) (rows:List (List PV))
 | ptr (b i j:Nat)
 | own (b i n:Nat)
 | W3 (b:Nat)
 | agg (cs:List AV)
 | p7 (vs:List AV)
 | func (fn:Fn) (first caps:List AV)
 | L4
 | yld (b:Nat)
 | mark (k:Nat)
 | undef
 deriving Inhabited
inductive e6 where
 | arr (es:Nat) (rows:List (List PV)) (sl:Bool)
 | box (es:Nat) (rows:List (List AV)) (sl:Bool)
 | map (ents:List (List UInt8 × AV))
 deriving Inhabited
def e6.es:e6→Nat
 | .arr e _ _=>e
 | .box e _ _=>e
 | .map _=>1
def e6.len:e6→Nat
 | .arr _ r _=>r.length
 | .box _ r _=>r.length
 | .map _=>0
def e6.M9:e6→Bool
 | .arr _ _ s=>s
 | .box _ _ s=>s
 | .map _=>false
def e6.H6:e6→Bool
 | .map _=>true
 | _=>false
abbrev d6:=List (Nat × Option e6)
def find:d6→Nat→Option e6
 | [],_=>none
 | (k,o)::s,b=>match k==b with | true=>o | false=>find s b
abbrev y3:=Nat→Nat→Prop
inductive B5 (w:World) (I:y3):Value→PV→Prop
 | bool (b:Bool):B5 w I (.bool b) (.bool b)
 | int (k:IntKind) (n:Int):B5 w I (.int k n) (.int k n)
 | str (s:ByteArray):B5 w I (.string s) (.str s.data.toList)
 | sl {p:Option Addr} {len cap es:Nat} {rows:List (List PV)} (f:Nat→Nat→Value) (hl:rows.length=len) (hc:len≤cap)
  (hw:∀ (i:Nat) (row:List PV),rows[i]?=some row→row.length=es)
  (hp:rows≠[]→∃ a:Addr,p=some a∧a.spot=none∧∀ (i j:Nat),i<rows.length→j<es→
   w.cell? ⟨a.block,a.off+(i*es+j),none⟩=some (f i j)∧I a.block (a.off+(i*es+j))∧(f i j).oneCell'=true)
  (hr:∀ (i j:Nat) (row:List PV) (q:PV),rows[i]?=some row→row[j]?=some q→B5 w I (f i j) q):B5 w I (.slice p len cap) (.sl es rows)
 | ref {a:Addr} {cs:List PV} (f:Nat→Value) (ha:a.spot=none)
  (hp:∀ j:Nat,j<cs.length→w.cell? ⟨a.block,a.off+j,none⟩=some (f j)∧I a.block (a.off+j)∧(f j).oneCell'=true)
  (hr:∀ (j:Nat) (q:PV),cs[j]?=some q→B5 w I (f j) q):B5 w I (.pointer (some a)) (.ref cs)
 | agg {cs:Array Value} {ps:List PV} (hl:cs.size=ps.length)
  (h:∀ (j:Nat) (x:Value) (q:PV),cs[j]?=some x→ps[j]?=some q→B5 w I x q):B5 w I (.agg cs) (.agg ps)
 | p7 {cs:Array Value} {ps:List PV} (hl:cs.size=ps.length)
  (h:∀ (j:Nat) (x:Value) (q:PV),cs[j]?=some x→ps[j]?=some q→B5 w I x q):B5 w I (.tuple cs) (.p7 ps)
 | func {fn:Fn} {xs ys:Array Value} {ps qs:List PV} (hl:xs.size=ps.length) (hl':ys.size=qs.length)
  (h:∀ (j:Nat) (x:Value) (q:PV),xs[j]?=some x→ps[j]?=some q→B5 w I x q)
  (h':∀ (j:Nat) (x:Value) (q:PV),ys[j]?=some x→qs[j]?=some q→B5 w I x q):B5 w I (.func fn xs ys) (.func fn ps qs)
 | nilFunc:B5 w I .nilFunc .nilFunc
 | emp (es:Nat):B5 w I (.slice none 0 0) (.emp es)
def b8i (w:World) (I:y3) (w':World) (I':y3):Prop:=
 ∀ r o x,I r o→w.cell? ⟨r,o,none⟩=some x→w'.cell? ⟨r,o,none⟩=some x∧I' r o
theorem B5.mono {w w':World} {I I':y3} (hk:b8i w I w' I') {v:Value} {p:PV} (h:B5 w I v p):B5 w' I' v p:=by
 induction h with
 | bool b=>exact .bool b
 | int k n=>exact .int k n
 | str s=>exact .str s
 | sl f hl hc hw hp _ ih=>
   refine .sl f hl hc hw (fun hne=>?_) ih
   obtain ⟨a,ha,hs,hx⟩:=hp hne
   exact ⟨a,ha,hs,fun i j hi hj=>let k:=hk _ _ _ (hx i j hi hj).2.1 (hx i j hi hj).1;⟨k.1,k.2,(hx i j hi hj).2.2⟩⟩
 | ref f ha hp _ ih=>exact .ref f ha (fun j hj=>let k:=hk _ _ _ (hp j hj).2.1 (hp j hj).1;⟨k.1,k.2,(hp j hj).2.2⟩) ih
 | agg hl _ ih=>exact .agg hl ih
 | p7 hl _ ih=>exact .p7 hl ih
 | func hl hl' _ _ ih ih'=>exact .func hl hl' ih ih'
 | nilFunc=>exact .nilFunc
 | emp es=>exact .emp es
def b7b (w:World) (ι:Nat→Option Nat) (o:e6) (b i n:Nat) (v:Value):Prop:=
 ∃ p cap,v= .slice p n cap∧i+n≤o.len∧(n≤cap∧o.len≤i+cap)∧
   ((n=0∧cap=0)∨∃ (r:Nat) (c:Array Value) (T:TypeId) (fz:Nat × Nat),ι b=some r∧p=some ⟨r,i*o.es,none⟩∧w.heap[r]?=some (Obj.cells c T fz)∧(i+cap)*o.es≤c.size)
inductive i5 (w:World) (I:y3) (ι:Nat→Option Nat) (σ:d6) (D:Nat→Prop):Value→AV→Prop
 | pv {v:Value} {p:PV} (h:B5 w I v p):i5 w I ι σ D v (.pv p)
 | emp (es:Nat):i5 w I ι σ D (.slice none 0 0) (.emp es)
 | fsl {p:Option Addr} {n es:Nat} {rows:List (List PV)} (h:B5 w I (.slice p n n) (.sl es rows)):i5 w I ι σ D (.slice p n n) (.fsl es rows)
 | ptr {v:Value} {b i j:Nat} (hD:D b) (h1:v.oneCell'=true) (h:∀ o,find σ b=some o→∃ r,ι b=some r∧v= .pointer (some ⟨r,i*o.es+j,none⟩)):i5 w I ι σ D v (.ptr b i j)
 | own {v:Value} {b i n:Nat} (hD:D b) (h1:v.oneCell'=true) (h:∀ o,find σ b=some o→b7b w ι o b i n v):i5 w I ι σ D v (.own b i n)
 | W3 {v:Value} {b:Nat} (hD:D b) (h1:v.oneCell'=true) (h:∀ o,find σ b=some o→∃ r,ι b=some r∧v= .map (some r)):i5 w I ι σ D v (.W3 b)
 | agg {cs:Array Value} {ps:List AV} (hl:cs.size=ps.length)
  (h:∀ (j:Nat) (x:Value) (q:AV),cs[j]?=some x→ps[j]?=some q→i5 w I ι σ D x q):i5 w I ι σ D (.agg cs) (.agg ps)
 | p7 {cs:Array Value} {ps:List AV} (hl:cs.size=ps.length)
  (h:∀ (j:Nat) (x:Value) (q:AV),cs[j]?=some x→ps[j]?=some q→i5 w I ι σ D x q):i5 w I ι σ D (.tuple cs) (.p7 ps)
 | func {fn:Fn} {xs ys:Array Value} {ps qs:List AV} (hl:xs.size=ps.length) (hl':ys.size=qs.length)
  (h:∀ (j:Nat) (x:Value) (q:AV),xs[j]?=some x→ps[j]?=some q→i5 w I ι σ D x q)
  (h':∀ (j:Nat) (x:Value) (q:AV),ys[j]?=some x→qs[j]?=some q→i5 w I ι σ D x q):i5 w I ι σ D (.func fn xs ys) (.func fn ps qs)
 | L4 (b:Bool):i5 w I ι σ D (.bool b) .L4
 | yld {v:Value} {b:Nat} (hD:D b) (h:∃ l,ι b=some l∧v= .func (.yield l) #[] #[]):i5 w I ι σ D v (.yld b)
 | mark (v:Value) (k:Nat):i5 w I ι σ D v (.mark k)
 | undef (v:Value):i5 w I ι σ D v .undef
structure Later0 (w:World) (I:y3) (ι:Nat→Option Nat) (σ:d6) (D:Nat→Prop)
 (w':World) (I':y3) (ι':Nat→Option Nat) (σ':d6) (D':Nat→Prop):Prop where
 keeps:b8i w I w' I'
 names:∀ b,D b→D' b
 live:∀ b o',D b→find σ' b=some o'→∃ o,find σ b=some o∧o'.es=o.es∧o'.len=o.len∧ι' b=ι b
 rows:∀ (r:Nat) (c:Array Value) (T:TypeId) (fz:Nat × Nat),w.heap[r]?=some (Obj.cells c T fz)→∃ (c':Array Value) (fz':Nat × Nat),w'.heap[r]?=some (Obj.cells c' T fz')∧c'.size=c.size
 same:∀ b,D b→ι' b=ι b
def still (o:Obj):Bool:=match o with
 | .cells .. =>false
 | .map .. =>false
 | _=>true
structure v9 (w:World) (I:y3) (ι:Nat→Option Nat) (σ:d6) (D:Nat→Prop)
 (w':World) (I':y3) (ι':Nat→Option Nat) (σ':d6) (D':Nat→Prop):Prop extends Later0 w I ι σ D w' I' ι' σ' D' where
 loops:∀ (r:Nat) (o:Obj),still o=true→w.heap[r]?=some o→w'.heap[r]?=some o
theorem v9.refl {w:World} {I:y3} {ι:Nat→Option Nat} {σ:d6} {D:Nat→Prop}:v9 w I ι σ D w I ι σ D:=
 ⟨⟨fun _ _ _ hi hx=>⟨hx,hi⟩,fun _ h=>h,fun _ o' _ h=>⟨o',h,rfl,rfl,rfl⟩,fun _ c _ fz h=>⟨c,fz,h,rfl⟩,fun _ _=>rfl⟩,fun _ _ _ h=>h⟩
theorem v9.trans {w w' w'':World} {I I' I'':y3} {ι ι' ι'':Nat→Option Nat} {σ σ' σ'':d6} {D D' D'':Nat→Prop}
 (h:v9 w I ι σ D w' I' ι' σ' D') (k:v9 w' I' ι' σ' D' w'' I'' ι'' σ'' D''):v9 w I ι σ D w'' I'' ι'' σ'' D'' where
 keeps:=fun r o x hi hx=>let ⟨a,b⟩:=h.keeps r o x hi hx;k.keeps r o x b a
 names:=fun b hb=>k.names b (h.names b hb)
 live:=fun b o' hb hf=>by
  obtain ⟨o,ho,e1,e2,e3⟩:=k.live b o' (h.names b hb) hf
  obtain ⟨o₂,ho₂,f1,f2,f3⟩:=h.live b o hb ho
  exact ⟨o₂,ho₂,e1.trans f1,e2.trans f2,e3.trans f3⟩
 rows:=fun r c T fz hr=>by
  obtain ⟨c',fz',h1,h2⟩:=h.rows r c T fz hr
  obtain ⟨c'',fz'',k1,k2⟩:=k.rows r c' T fz' h1
  exact ⟨c'',fz'',k1,k2.trans h2⟩
 same:=fun b hb=>(k.same b (h.names b hb)).trans (h.same b hb)
 loops:=fun r o hs hr=>k.loops r o hs (h.loops r o hs hr)
theorem i5.a3O {w w':World} {I I':y3} {ι ι':Nat→Option Nat} {σ σ':d6} {D D':Nat→Prop} (hk:Later0 w I ι σ D w' I' ι' σ' D')
 {v:Value} {p:AV} (h:i5 w I ι σ D v p):i5 w' I' ι' σ' D' v p:=by
 induction h with
 | pv h=>exact .pv (h.mono hk.keeps)
 | emp es=>exact .emp es
 | fsl h=>exact .fsl (h.mono hk.keeps)
 | ptr hD h1 h=>
   refine .ptr (hk.names _ hD) h1 fun o' ho'=>?_
   obtain ⟨o,ho,e1,_,e3⟩:=hk.live _ _ hD ho'
   obtain ⟨r,hr,hv⟩:=h o ho
   exact ⟨r,e3.trans hr,by rw [e1];exact hv⟩
 | own hD h1 h=>
   refine .own (hk.names _ hD) h1 fun o' ho'=>?_
   obtain ⟨o,ho,e1,e2,e3⟩:=hk.live _ _ hD ho'
   obtain ⟨p,cap,hv,hlen,hcap,hx⟩:=h o ho
   refine ⟨p,cap,hv,e2 ▸ hlen,⟨hcap.1,e2 ▸ hcap.2⟩,?_⟩
   rcases hx with hx | ⟨r,c,T,fz,h1,h2,h3,h4⟩
   ·exact .inl hx
   ·obtain ⟨c',fz',k1,k2⟩:=hk.rows r c T fz h3
    exact .inr ⟨r,c',T,fz',e3.trans h1,by rw [e1];exact h2,k1,by rw [e1,k2];exact h4⟩
 | W3 hD h1 h=>
   refine .W3 (hk.names _ hD) h1 fun o' ho'=>?_
   obtain ⟨o,ho,_,_,e3⟩:=hk.live _ _ hD ho'
   obtain ⟨r,hr,hv⟩:=h o ho
   exact ⟨r,e3.trans hr,hv⟩
 | agg hl _ ih=>exact .agg hl ih
 | p7 hl _ ih=>exact .p7 hl ih
 | func hl hl' _ _ ih ih'=>exact .func hl hl' ih ih'
 | L4 b=>exact .L4 b
 | yld hD h=>exact .yld (hk.names _ hD) (by obtain ⟨l,h1,h2⟩:=h;exact ⟨l,(hk.same _ hD).trans h1,h2⟩)
 | mark v k=>exact .mark v k
 | undef v=>exact .undef v
theorem i5.mono {w w':World} {I I':y3} {ι ι':Nat→Option Nat} {σ σ':d6} {D D':Nat→Prop} (hk:v9 w I ι σ D w' I' ι' σ' D')
 {v:Value} {p:AV} (h:i5 w I ι σ D v p):i5 w' I' ι' σ' D' v p:=h.a3O hk.toLater0
end Go.Ab
namespace Go.Ab
inductive RA where
 | t (n:Nat)
 | c (v:AV)
 | f (g:Nat)
 | g (i:Nat)
 deriving Inhabited
inductive ROp where
 | mv (x:RA)
 | pick (c a b:RA)
 | alloc (zero:List AV)
 | box (n:Nat) (x:RA)
 | load (agg:Bool) (n:Nat) (x:RA)
 | store (n:Nat) (a v:RA)
 | bin (op:BinOp) (x y:RA)
 | eqs (neq:Bool) (kinds:List Nat) (x y:RA)
 | eqb (neq:Bool) (x y:RA)
 | a8Z (neq:Bool) (x:RA)
 | not (x:RA)
 | neg (x:RA)
 | conv (k:IntKind) (x:RA)
 | same (x:RA)
 | s2b (x:RA)
 | b2s (x:RA)
 | mkf (fn:Fn) (first caps:List RA)
 | b2u
 | insert (m k v:RA)
 | lookup (m k:RA) (zero:AV)
 | b2v (es bytes:Nat) (zero:List PV) (n:RA)
 | clear (es:Nat) (zero:List PV) (x:RA)
 | slice (es:Nat) (x:RA) (lo hi mx:Option RA)
 | a3w (x:RA) (lo hi:Option RA)
 | b8 (x:RA) (off:Nat)
 | field (agg:Bool) (off n:Nat) (x:RA)
 | m6 (es:Nat) (x i:RA)
 | a7I (len es:Nat) (x i:RA)
 | a6r (neq:Bool) (x:RA)
 | index (agg:Bool) (len es:Nat) (x i:RA)
 | a8m (x i:RA)
 | extract (x:RA) (i:Nat)
 | call (f:RA) (args:List RA)
 | n9 (x:RA)
 | N0 (x:RA)
 | b9e (n:Nat)
 | append (es bytes:Nat) (s x:RA)
 | copy (es:Nat) (d s:RA)
 | mm (isMax:Bool) (xs:List RA)
 | build (zeros:List AV) (parts:List (Nat × Nat × RA))
 | V7 (es n:Nat) (zeros:List AV) (parts:List (Nat × RA))
 deriving Inhabited
structure o7 where
 dst:Option Nat
 op:ROp
 guard:Option (Nat × Bool)
 pre:Nat
 deriving Inhabited
inductive RC where
 | skip
 | b9 (ops:List o7) (draw:Bool)
 | seq (a b:RC)
 | cond (c:RA) (a b:RC)
 | block (id:Nat) (b:RC)
 | loop (live:List Nat) (b:RC)
 | rng (f:RA) (ps:List Nat) (as bd:RC)
 | exit (id:Nat)
 | scope (b:RC)
 | ret
 deriving Inhabited
inductive T where
 | nil
 | leaf (v:AV)
 | node (l r:T)
 deriving Inhabited
def T.l:T→T | .node l _=>l | _=>.nil
def T.r:T→T | .node _ r=>r | _=>.nil
def T.get:Nat→T→Nat→AV
 | 0,.leaf v,_=>v
 | d+1,.node l r,n=>match n % 2 with | 0=>T.get d l (n / 2) | _=>T.get d r (n / 2)
 | _,_,_=>.undef
def T.set:Nat→T→Nat→AV→T
 | 0,_,_,v=>.leaf v
 | d+1,t,n,v=>match n % 2 with | 0=>.node (T.set d t.l (n / 2) v) t.r | _=>.node t.l (T.set d t.r (n / 2) v)
def d9:Nat:=10
structure St where
 tm:T
 σ:d6
 nx:Nat
 nt:Nat
 deriving Inhabited
def AV.cells:AV→List AV
 | .agg cs=>cs
 | .pv (.agg ps)=>ps.map .pv
 | .undef=>[]
 | .mark _=>[]
 | v=>[v]
def AV.a5s:AV→Bool
 | .agg _=>false
 | .p7 _=>false
 | .undef=>false
 | .mark _=>false
 | .pv (.agg _)=>false
 | .pv (.p7 _)=>false
 | _=>true
def AV.a2j:AV→Bool
 | .agg _=>true
 | .pv (.agg _)=>true
 | _=>false
def y4:List AV→Bool
 | []=>true
 | a::l=>a.a5s&&y4 l
mutual
def AV.a4Q:AV→Option PV
 | .pv p=>some p
 | .emp es=>some (.emp es)
 | .fsl es rows=>some (.sl es rows)
 | .agg cs=>match T6 cs with | some ps=>some (.agg ps) | none=>none
 | .p7 cs=>match T6 cs with | some ps=>some (.p7 ps) | none=>none
 | .func fn a b=>match T6 a,T6 b with | some ps,some qs=>some (.func fn ps qs) | _,_=>none
 | _=>none
def T6:List AV→Option (List PV)
 | []=>some []
 | a::l=>match a.a4Q with
   | some p=>match T6 l with | some ps=>some (p::ps) | none=>none
   | none=>none
end
def a3n:Bool→List AV→Option AV
 | true,cs=>some (.agg cs)
 | false,[x]=>some x
 | false,_=>none
def e6.row?:e6→Nat→Option (List AV)
 | .arr _ rows _,i=>match rows[i]? with | some r=>some (r.map .pv) | none=>none
 | .box _ rows _,i=>rows[i]?
 | .map _,_=>none
def a0m:List (List AV)→Option (List (List PV))
 | []=>some []
 | r::l=>match T6 r with
   | some p=>match a0m l with | some ps=>some (p::ps) | none=>none
   | none=>none
def mkObj (es:Nat) (rows:List (List AV)):e6:=
 match a0m rows with
 | some ps=>.arr es ps false
 | none=>.box es rows false
structure m8 where
 v:AV
 rd:List Nat:=[]
 up:List (Nat × Option e6):=[]
 deriving Inhabited
def m8.of (v:AV):Option m8:=some {v:=v}
def a4U:Nat→AV→AV→Option Bool
 | 0,.pv (.int k a),.pv (.int k' b)=>if k=k' then some (a==b) else none
 | 1,.pv (.bool a),.pv (.bool b)=>some (a==b)
 | 2,.pv (.str a),.pv (.str b)=>some (a==b)
 | _,_,_=>none
def a1H:List Nat→List AV→List AV→Option Bool
 | [],[],[]=>some true
 | k::ks,a::l,b::m=>match a4U k a b with
   | some x=>match a1H ks l m with | some y=>some (x&&y) | none=>none
   | none=>none
 | _,_,_=>none
def binop:BinOp→AV→AV→Option AV
 | op,.pv (.int k a),.pv (.int k' b)=>
   if k=k' then
    match op with
    | .add=>some (.pv (.int k (k.wrap (a+b))))
    | .sub=>some (.pv (.int k (k.wrap (a - b))))
    | .mul=>some (.pv (.int k (k.wrap (a*b))))
    | .quo=>if b=0 then none else some (.pv (.int k (k.wrap (a.tdiv b))))
    | .rem=>if b=0 then none else some (.pv (.int k (a.tmod b)))
    | .eql=>some (.pv (.bool (a==b)))
    | .neq=>some (.pv (.bool (a != b)))
    | .lss=>some (.pv (.bool (decide (a<b))))
    | .leq=>some (.pv (.bool (decide (a≤b))))
    | .gtr=>some (.pv (.bool (decide (a>b))))
    | .geq=>some (.pv (.bool (decide (a≥b))))
    | _=>none
   else none
 | .eql,.pv (.str a),.pv (.str b)=>some (.pv (.bool (a==b)))
 | .neq,.pv (.str a),.pv (.str b)=>some (.pv (.bool (!(a==b))))
 | .add,.pv (.str a),.pv (.str b)=>if a.length+b.length<2 ^ 40 then some (.pv (.str (a++b))) else none
 | _,_,_=>none
def AV.e:AV→AV
 | .pv p=>match p with
   | .emp es=>.emp es
   | q=>.pv q
 | a=>a
def rowsOf (σ:d6) (es:Nat) (a:AV):Option (List (List AV) × List Nat):=match a.e with
 | .emp _=>some ([],[])
 | .fsl e rows=>if e=es then some (rows.map (·.map .pv),[]) else none
 | .pv (.sl e rows)=>if e=es then some (rows.map (·.map .pv),[]) else none
 | .own b i n=>match find σ b with
   | some (.arr e rows _)=>if e=es then some (((rows.drop i).take n).map (·.map .pv),[b]) else none
   | some (.box e rows _)=>if e=es then some ((rows.drop i).take n,[b]) else none
   | _=>none
 | _=>none
def n8 (σ:d6) (es:Nat) (a:AV):Option (List (List PV) × List Nat):=match a.e with
 | .emp _=>some ([],[])
 | .fsl e rows=>if e=es then some (rows,[]) else none
 | .pv (.sl e rows)=>if e=es then some (rows,[]) else none
 | .own b i n=>match find σ b with
   | some (.arr e rows _)=>if e=es then some ((rows.drop i).take n,[b]) else none
   | _=>none
 | _=>none
def idxOf:AV→Option Int
 | .pv (.int _ n)=>some n
 | _=>none
def k9 (ev:RA→AV) (d:Int):Option RA→Option Int
 | none=>some d
 | some x=>idxOf (ev x)
def q0 (k:List UInt8):List (List UInt8 × AV)→Option AV
 | []=>none
 | (a,v)::l=>if a==k then some v else q0 k l
def ltB:List UInt8→List UInt8→Bool
 | _,[]=>false
 | [],_::_=>true
 | a::l,b::m=>match Nat.blt a.toNat b.toNat with
   | true=>true
   | false=>match Nat.blt b.toNat a.toNat with
     | true=>false
     | false=>ltB l m
def W0 (k:List UInt8) (v:AV):List (List UInt8 × AV)→List (List UInt8 × AV)
 | []=>[(k,v)]
 | (a,x)::l=>match ltB k a with
   | true=>(k,v)::(a,x)::l
   | false=>(a,x)::W0 k v l
def G8 (row:List AV) (j:Nat) (cs:List AV):List AV:=row.take j++cs++row.drop (j+cs.length)
def a6o (cells:List AV):List (Nat × Nat × AV)→Option (List AV)
 | []=>some cells
 | (off,n,v)::l=>if v.cells.length=n∧off+n≤cells.length then a6o (G8 cells off v.cells) l else none
def mm2 (isMax:Bool):AV→AV→Option AV
 | .pv (.int k a),.pv (.int k' b)=>if k=k' then some (.pv (.int k (if isMax then (if b>a then b else a) else (if b<a then b else a)))) else none
 | _,_=>none
def mmF (isMax:Bool) (ev:RA→AV):AV→List RA→Option AV
 | a,[]=>some a
 | a,x::l=>match mm2 isMax a (ev x) with | some r=>mmF isMax ev r l | none=>none
def R8:List (List PV)→Option (List UInt8)
 | []=>some []
 | [.int .u8 n]::l=>match R8 l with | some r=>some (UInt8.ofNat n.toNat::r) | none=>none
 | _=>none
def step (σ:d6) (nm:Nat) (ev:RA→AV):ROp→Option m8
 | .mv x=>m8.of (ev x)
 | .pick c a b=>match ev c with
   | .pv (.bool x)=>(match x with | true=>m8.of (ev a) | false=>m8.of (ev b))
   | _=>none
 | .alloc zero=>some {v:=.ptr nm 0 0,up:=[(nm,some (.box zero.length [zero] false))]}
 | .box n x=>if (ev x).cells.length=n∧y4 (ev x).cells=true then some {v:=.ptr nm 0 0,up:=[(nm,some (.box n [(ev x).cells] false))]} else none
 | .load agg n x=>match ev x with
   | .ptr b i j=>match find σ b with
     | some o=>match o.row? i with
       | some row=>if j+n≤row.length then (match a3n agg ((row.drop j).take n) with | some v=>some {v:=v,rd:=[b]} | none=>none) else none
       | none=>none
     | none=>none
   | .pv (.ref cs)=>if n≤cs.length then (match a3n agg ((cs.take n).map .pv) with | some v=>some {v:=v} | none=>none) else none
   | _=>none
 | .store n a v=>match ev a with
   | .ptr b i j=>match find σ b with
     | some (.box es rows false)=>match rows[i]? with
       | some row=>if (ev v).cells.length=n∧j+n≤row.length∧y4 (ev v).cells=true then
        some {v:=.undef,rd:=[b],up:=[(b,some (.box es (rows.set i (G8 row j (ev v).cells)) false))]} else none
       | none=>none
     | some (.arr es rows false)=>match rows[i]? with
       | some row=>match T6 (ev v).cells with
         | some ps=>if (ev v).cells.length=n∧j+n≤row.length∧y4 (ev v).cells=true then
          some {v:=.undef,rd:=[b],up:=[(b,some (.arr es (rows.set i (row.take j++ps++row.drop (j+ps.length))) false))]} else none
         | none=>if (ev v).cells.length=n∧j+n≤row.length∧y4 (ev v).cells=true then
          some {v:=.undef,rd:=[b],up:=[(b,some (.box es ((rows.map (·.map AV.pv)).set i (G8 (row.map .pv) j (ev v).cells)) false))]} else none
       | none=>none
     | _=>none
   | _=>none
 | .bin op x y=>match binop op (ev x) (ev y) with | some v=>m8.of v | none=>none
 | .eqs neq kinds x y=>match a1H kinds (ev x).cells (ev y).cells with
   | some b=>if (ev x).a2j=true∧(ev y).a2j=true then m8.of (.pv (.bool (match neq with | true=>!b | false=>b))) else none
   | none=>none
 | .eqb neq x y=>match ev x,ev y with
   | .pv (.bool a),.pv (.bool b)=>m8.of (.pv (.bool (match neq with | true=>!(a==b) | false=>a==b)))
   | _,_=>none
 | .a8Z neq x=>match (ev x).e with
   | .emp _=>m8.of (.pv (.bool (!neq)))
   | .fsl _ rows=>(match rows with | []=>m8.of .L4 | _::_=>m8.of (.pv (.bool neq)))
   | .pv (.sl _ rows)=>(match rows with | []=>m8.of .L4 | _::_=>m8.of (.pv (.bool neq)))
   | .own b _ n=>match find σ b with
     | some _=>(match n with | 0=>some {v:=.L4,rd:=[b]} | _+1=>some {v:=.pv (.bool neq),rd:=[b]})
     | none=>none
   | _=>none
 | .not x=>match ev x with | .pv (.bool b)=>m8.of (.pv (.bool (!b))) | _=>none
 | .neg x=>match ev x with | .pv (.int k n)=>m8.of (.pv (.int k (k.wrap (0 - n)))) | _=>none
 | .conv k x=>match ev x with | .pv (.int _ n)=>m8.of (.pv (.int k (k.wrap n))) | _=>none
 | .same x=>match ev x with | .pv (.str s)=>m8.of (.pv (.str s)) | _=>none
 | .s2b x=>match ev x with
   | .pv (.str s)=>some {v:=.own nm 0 s.length,up:=[(nm,some (.arr 1 (s.map fun b=>[PV.int .u8 b.toNat]) false))]}
   | _=>none
 | .b2s x=>match n8 σ 1 (ev x) with
   | some (rows,rd)=>match R8 rows with | some s=>some {v:=.pv (.str s),rd:=rd} | none=>none
   | none=>none
 | .mkf fn first caps=>m8.of (.func fn (first.map ev) (caps.map ev))
 | .b2u=>some {v:=.W3 nm,up:=[(nm,some (.map []))]}
 | .insert m k v=>match ev m,ev k with
   | .W3 b,.pv (.str s)=>match find σ b with
     | some (.map ents)=>match q0 s ents with
       | none=>some {v:=.undef,rd:=[b],up:=[(b,some (.map (W0 s (ev v) ents)))]}
       | some _=>none
     | _=>none
   | _,_=>none
 | .lookup m k zero=>match ev m,ev k with
   | .W3 b,.pv (.str s)=>match find σ b with
     | some (.map ents)=>some {v:=match q0 s ents with | some v=>.p7 [v,.pv (.bool true)] | none=>.p7 [zero,.pv (.bool false)],rd:=[b]}
     | _=>none
   | _,_=>none
 | .clear es zero x=>match ev x with
   | .own b i n=>match find σ b with
     | some (.arr es' rows false)=>if es'=es∧i+n≤rows.length∧0<n∧zero.length=es then some {v:=.p7 [],rd:=[b],up:=[(b,some (.arr es (rows.take i++List.replicate n zero++rows.drop (i+n)) false))]} else none
     | _=>none
   | _=>none
 | .b2v es bytes zero n=>match idxOf (ev n) with
   | some k=>if 0≤k∧k*bytes≤2 ^ 40∧zero.length=es∧0<bytes then some {v:=.own nm 0 k.toNat,up:=[(nm,some (.arr es (List.replicate k.toNat zero) false))]} else none
   | none=>none
 | .slice es x lo hi mx=>match (ev x).e with
   | .own b i n=>match find σ b with
     | some o=>match k9 ev 0 lo,k9 ev n hi,k9 ev ((o.len:Int) - i) mx with
       | some l,some h,some m=>if 0≤l∧l≤h∧h≤m∧(mx.isNone=true∨m≤n)∧o.es=es∧(mx.isNone=true∨(o.len:Int)≤i+m) then some {v:=.own b (i+l.toNat) (h - l).toNat,rd:=[b]} else none
       | _,_,_=>none
     | none=>none
   | .pv (.sl e rows)=>if e=es then sliceP ev es rows lo hi mx else none
   | .fsl e rows=>if e=es then sliceP ev es rows lo hi mx else none
   | .emp e=>match k9 ev 0 lo,k9 ev 0 hi,k9 ev 0 mx with
     | some l,some h,some m=>if l=0∧h=0∧m=0 then m8.of (.emp e) else none
     | _,_,_=>none
   | _=>none
 | .a3w x lo hi=>match ev x with
   | .pv (.str s)=>match k9 ev 0 lo,k9 ev s.length hi with
     | some l,some h=>if 0≤l∧l≤h∧h≤s.length then m8.of (.pv (.str ((s.take h.toNat).drop l.toNat))) else none
     | _,_=>none
   | _=>none
 | .b8 x off=>match ev x with
   | .ptr b i j=>match find σ b with | some _=>some {v:=.ptr b i (j+off),rd:=[b]} | none=>none
   | .pv (.ref cs)=>m8.of (.pv (.ref (cs.drop off)))
   | _=>none
 | .field agg off n x=>if off+n≤(ev x).cells.length∧(ev x).a2j=true then (match a3n agg (((ev x).cells.drop off).take n) with | some v=>m8.of v | none=>none) else none
 | .m6 es x i=>match idxOf (ev i) with
   | some k=>match ev x with
     | .own b i n=>match find σ b with
       | some o=>if 0≤k∧k<n∧o.es=es then some {v:=.ptr b (i+k.toNat) 0,rd:=[b]} else none
       | none=>none
     | .pv (.sl e rows)=>if e=es then iaddrP k rows else none
     | .fsl e rows=>if e=es then iaddrP k rows else none
     | _=>none
   | none=>none
 | .a7I len es x i=>match idxOf (ev i) with
   | some k=>if 0≤k∧k<len then (match ev x with
     | .ptr b r j=>match find σ b with | some _=>some {v:=.ptr b r (j+k.toNat*es),rd:=[b]} | none=>none
     | .pv (.ref cs)=>m8.of (.pv (.ref (cs.drop (k.toNat*es))))
     | _=>none) else none
   | none=>none
 | .a6r neq x=>match ev x with
   | .func _ _ _=>m8.of (.pv (.bool neq))
   | .pv (.func _ _ _)=>m8.of (.pv (.bool neq))
   | .pv .nilFunc=>m8.of (.pv (.bool (!neq)))
   | _=>none
 | .index agg len es x i=>match idxOf (ev i) with
   | some k=>if 0≤k∧k<len∧(ev x).cells.length=len*es∧(ev x).a2j=true then (match a3n agg (((ev x).cells.drop (k.toNat*es)).take es) with | some v=>m8.of v | none=>none) else none
   | none=>none
 | .a8m x i=>match ev x,idxOf (ev i) with
   | .pv (.str s),some k=>if 0≤k then (match s[k.toNat]? with | some b=>m8.of (.pv (.int .u8 b.toNat)) | none=>none) else none
   | _,_=>none
 | .extract x i=>match ev x with
   | .p7 vs=>match vs[i]? with | some v=>m8.of v | none=>none
   | .pv (.p7 ps)=>match ps[i]? with | some p=>m8.of (.pv p) | none=>none
   | _=>none
 | .call _ _=>none
 | .n9 x=>match (ev x).e with
   | .own b _ n=>match find σ b with | some _=>some {v:=.pv (.int .i64 n),rd:=[b]} | none=>none
   | .pv (.sl _ rows)=>m8.of (.pv (.int .i64 rows.length))
   | .fsl _ rows=>m8.of (.pv (.int .i64 rows.length))
   | .emp _=>m8.of (.pv (.int .i64 0))
   | _=>none
 | .N0 x=>match ev x with | .pv (.str s)=>m8.of (.pv (.int .i64 s.length)) | _=>none
 | .b9e n=>m8.of (.pv (.int .i64 n))
 | .append es bytes s x=>match (ev s).e with
   | .emp _=>match rowsOf σ es (ev x) with
     | some (xs,rd)=>if xs.length*bytes≤2 ^ 40 then some {v:=.own nm 0 xs.length,rd:=rd,up:=[(nm,some (mkObj es xs))]} else none
     | none=>none
   | .fsl e rows=>match n8 σ es (ev x) with
     | some (xs,rd)=>if (rows.length+xs.length)*bytes≤2 ^ 40∧e=es then some {v:=.pv (.sl es (rows++xs)),rd:=rd} else none
     | none=>none
   | .own b 0 n=>match find σ b with
     | some (.arr es' rows sl)=>if rows.length=n∧es'=es then (match n8 σ es (ev x) with
       | some (xs,rd)=>if (n+xs.length)*bytes≤2 ^ 40 then some {v:=.own nm 0 (n+xs.length),rd:=b::rd,up:=[(b,none),(nm,some (.arr es (rows++xs) sl))]} else none
       | none=>match rowsOf σ es (ev x) with
         | some (xs,rd)=>if (n+xs.length)*bytes≤2 ^ 40 then some {v:=.own nm 0 (n+xs.length),rd:=b::rd,up:=[(b,none),(nm,some (.box es (rows.map (·.map AV.pv)++xs) sl))]} else none
         | none=>none) else (match sl with
           | true=>none
           | false=>match n8 σ es (ev x) with
             | some (xs,rd)=>if n+xs.length≤rows.length∧0<rows.length∧es'=es then some {v:=.own b 0 (n+xs.length),rd:=b::rd,up:=[(b,some (.arr es (rows.take n++xs++rows.drop (n+xs.length)) false))]} else none
             | none=>none)
     | some (.box es' rows sl)=>if rows.length=n∧es'=es then (match rowsOf σ es (ev x) with
       | some (xs,rd)=>if (n+xs.length)*bytes≤2 ^ 40 then some {v:=.own nm 0 (n+xs.length),rd:=b::rd,up:=[(b,none),(nm,some (.box es (rows++xs) sl))]} else none
       | none=>none) else none
     | _=>none
   | _=>none
 | .copy es d s=>match ev d with
   | .own b i n=>match find σ b with
     | some (.arr es' rows false)=>if es'=es then (match n8 σ es (ev s) with
       | some (xs,rd)=>if i+n≤rows.length then
        some {v:=.pv (.int .i64 (min xs.length n:Nat)),rd:=b::rd,up:=[(b,some (.arr es (rows.take i++xs.take (min xs.length n)++rows.drop (i+min xs.length n)) false))]} else none
       | none=>none) else none
     | _=>none
   | _=>none
 | .mm isMax xs=>match xs with
   | []=>none
   | x::l=>match mmF isMax ev (ev x) l with | some v=>m8.of v | none=>none
 | .build zeros parts=>match a6o zeros (parts.map fun (o,n,x)=>(o,n,ev x)) with | some cs=>m8.of (.agg cs) | none=>none
 | .V7 es n zeros parts=>match a6o (List.replicate n zeros).flatten (parts.map fun (i,x)=>(i*es,es,ev x)) with
   | some cs=>if y4 cs=true then some {v:=.own nm 0 n,up:=[(nm,some (mkObj es (chop es n cs)))]} else none
   | none=>none
where
 sliceP (ev:RA→AV) (es:Nat) (rows:List (List PV)) (lo hi mx:Option RA):Option m8:=
  match k9 ev 0 lo,k9 ev rows.length hi,k9 ev rows.length mx with
  | some l,some h,some m=>if 0≤l∧l≤h∧h≤m∧m≤rows.length then
   (match mx with
    | some _=>if h=m then m8.of (.fsl es ((rows.take h.toNat).drop l.toNat)) else m8.of (.pv (.sl es ((rows.take h.toNat).drop l.toNat)))
    | none=>m8.of (.pv (.sl es ((rows.take h.toNat).drop l.toNat)))) else none
  | _,_,_=>none
 iaddrP (k:Int) (rows:List (List PV)):Option m8:=
  if 0≤k then (match rows[k.toNat]? with
   | some row=>m8.of (.pv (.ref row))
   | none=>none) else none
 chop (es:Nat):Nat→List AV→List (List AV)
  | 0,_=>[]
  | n+1,cs=>cs.take es::chop es n (cs.drop es)
end Go.Ab
