/- A part of the proof: the texts Ab0, Ab1. Under: nothing. -/
import Derived.CallsIn
import Derived.Laws.World
import Derived.Laws.Sem
import Derived.Below
set_option linter.unusedVariables false
namespace Go.Ab
inductive PV where
 | bool (b:Bool)
 | int (k:IntKind) (n:Int)
 | str (s:List UInt8)
 | sl (es:Nat) (rows:List (List PV))
 | agg (cs:List PV)
 | o0 (vs:List PV)
 | func (fn:Fn) (first caps:List PV)
 | nilFunc
 | ref (cs:List PV)
 | emp (es:Nat)
 deriving Inhabited
inductive AV where
 | pv (p:PV)
 | emp (es:Nat)
 | fsl (es:Nat) (rows:List (List PV))
 | ptr (b i j:Nat)
 | own (b i n:Nat)
 | a0u (b:Nat)
 | agg (cs:List AV)
 | o0 (vs:List AV)
 | func (fn:Fn) (first caps:List AV)
 | O5
 | yld (b:Nat)
 | mark (k:Nat)
 | undef
 deriving Inhabited
inductive d9 where
 | arr (es:Nat) (rows:List (List PV)) (sl:Bool)
 | box (es:Nat) (rows:List (List AV)) (sl:Bool)
 | map (ents:List (List UInt8 × AV))
 deriving Inhabited
def d9.es:d9→Nat
 | .arr e _ _=>e
 | .box e _ _=>e
 | .map _=>1
def d9.len:d9→Nat
 | .arr _ r _=>r.length
 | .box _ r _=>r.length
 | .map _=>0
def d9.O3:d9→Bool
 | .arr _ _ s=>s
 | .box _ _ s=>s
 | .map _=>false
def d9.L0:d9→Bool
 | .map _=>true
 | _=>false
abbrev b7:=List (Nat × Option d9)
def find:b7→Nat→Option d9
 | [],_=>none
 | (k,o)::s,b=>match k==b with | true=>o | false=>find s b
abbrev v9:=Nat→Nat→Prop
inductive z5 (w:World) (I:v9):Value→PV→Prop
 | bool (b:Bool):z5 w I (.bool b) (.bool b)
 | int (k:IntKind) (n:Int):z5 w I (.int k n) (.int k n)
 | str (s:ByteArray):z5 w I (.string s) (.str s.data.toList)
 | sl {p:Option Addr} {len cap es:Nat} {rows:List (List PV)} (f:Nat→Nat→Value) (hl:rows.length=len) (hc:len≤cap)
  (hw:∀ (i:Nat) (row:List PV),rows[i]?=some row→row.length=es)
  (hp:rows≠[]→∃ a:Addr,p=some a∧a.spot=none∧∀ (i j:Nat),i<rows.length→j<es→
   w.cell? ⟨a.block,a.off+(i*es+j),none⟩=some (f i j)∧I a.block (a.off+(i*es+j))∧(f i j).oneCell'=true)
  (hr:∀ (i j:Nat) (row:List PV) (q:PV),rows[i]?=some row→row[j]?=some q→z5 w I (f i j) q):z5 w I (.slice p len cap) (.sl es rows)
 | ref {a:Addr} {cs:List PV} (f:Nat→Value) (ha:a.spot=none)
  (hp:∀ j:Nat,j<cs.length→w.cell? ⟨a.block,a.off+j,none⟩=some (f j)∧I a.block (a.off+j)∧(f j).oneCell'=true)
  (hr:∀ (j:Nat) (q:PV),cs[j]?=some q→z5 w I (f j) q):z5 w I (.pointer (some a)) (.ref cs)
 | agg {cs:Array Value} {ps:List PV} (hl:cs.size=ps.length)
  (h:∀ (j:Nat) (x:Value) (q:PV),cs[j]?=some x→ps[j]?=some q→z5 w I x q):z5 w I (.agg cs) (.agg ps)
 | o0 {cs:Array Value} {ps:List PV} (hl:cs.size=ps.length)
  (h:∀ (j:Nat) (x:Value) (q:PV),cs[j]?=some x→ps[j]?=some q→z5 w I x q):z5 w I (.tuple cs) (.o0 ps)
 | func {fn:Fn} {xs ys:Array Value} {ps qs:List PV} (hl:xs.size=ps.length) (hl':ys.size=qs.length)
  (h:∀ (j:Nat) (x:Value) (q:PV),xs[j]?=some x→ps[j]?=some q→z5 w I x q)
  (h':∀ (j:Nat) (x:Value) (q:PV),ys[j]?=some x→qs[j]?=some q→z5 w I x q):z5 w I (.func fn xs ys) (.func fn ps qs)
 | nilFunc:z5 w I .nilFunc .nilFunc
 | emp (es:Nat):z5 w I (.slice none 0 0) (.emp es)
def b7r (w:World) (I:v9) (w':World) (I':v9):Prop:=
 ∀ r o x,I r o→w.cell? ⟨r,o,none⟩=some x→w'.cell? ⟨r,o,none⟩=some x∧I' r o
theorem z5.mono {w w':World} {I I':v9} (hk:b7r w I w' I') {v:Value} {p:PV} (h:z5 w I v p):z5 w' I' v p:=by
 induction h with
 | bool b=>exact .bool b
 | int k n=>exact .int k n
 | str s=>exact .str s
 | sl f hl hc hw hp _ ih=>
   refine .sl f hl hc hw (fun hne=>?_) ih
   obtain ⟨a,ha,hs,hx⟩:=hp hne
   exact ⟨a,ha,hs,fun i j hi hj=>let k:=hk _ _ _ (hx i j hi hj).2.1 (hx i j hi hj).1;⟨k.1,k.2,(hx i j hi hj).2.2⟩⟩
 | ref f ha hp _ ih=>exact .ref f ha (fun j hj=>let k:=hk _ _ _ (hp j hj).2.1 (hp j hj).1;⟨k.1,k.2,(hp j hj).2.2⟩) ih
 | agg hl _ ih=>exact .agg hl ih
 | o0 hl _ ih=>exact .o0 hl ih
 | func hl hl' _ _ ih ih'=>exact .func hl hl' ih ih'
 | nilFunc=>exact .nilFunc
 | emp es=>exact .emp es
def b6n (w:World) (ι:Nat→Option Nat) (o:d9) (b i n:Nat) (v:Value):Prop:=
 ∃ p cap,v= .slice p n cap∧i+n≤o.len∧(n≤cap∧o.len≤i+cap)∧
   ((n=0∧cap=0)∨∃ (r:Nat) (c:Array Value) (T:TypeId) (fz:Nat × Nat),ι b=some r∧p=some ⟨r,i*o.es,none⟩∧w.heap[r]?=some (Obj.cells c T fz)∧(i+cap)*o.es≤c.size)
inductive e8 (w:World) (I:v9) (ι:Nat→Option Nat) (σ:b7) (D:Nat→Prop):Value→AV→Prop
 | pv {v:Value} {p:PV} (h:z5 w I v p):e8 w I ι σ D v (.pv p)
 | emp (es:Nat):e8 w I ι σ D (.slice none 0 0) (.emp es)
 | fsl {p:Option Addr} {n es:Nat} {rows:List (List PV)} (h:z5 w I (.slice p n n) (.sl es rows)):e8 w I ι σ D (.slice p n n) (.fsl es rows)
 | ptr {v:Value} {b i j:Nat} (hD:D b) (h1:v.oneCell'=true) (h:∀ o,find σ b=some o→∃ r,ι b=some r∧v= .pointer (some ⟨r,i*o.es+j,none⟩)):e8 w I ι σ D v (.ptr b i j)
 | own {v:Value} {b i n:Nat} (hD:D b) (h1:v.oneCell'=true) (h:∀ o,find σ b=some o→b6n w ι o b i n v):e8 w I ι σ D v (.own b i n)
 | a0u {v:Value} {b:Nat} (hD:D b) (h1:v.oneCell'=true) (h:∀ o,find σ b=some o→∃ r,ι b=some r∧v= .map (some r)):e8 w I ι σ D v (.a0u b)
 | agg {cs:Array Value} {ps:List AV} (hl:cs.size=ps.length)
  (h:∀ (j:Nat) (x:Value) (q:AV),cs[j]?=some x→ps[j]?=some q→e8 w I ι σ D x q):e8 w I ι σ D (.agg cs) (.agg ps)
 | o0 {cs:Array Value} {ps:List AV} (hl:cs.size=ps.length)
  (h:∀ (j:Nat) (x:Value) (q:AV),cs[j]?=some x→ps[j]?=some q→e8 w I ι σ D x q):e8 w I ι σ D (.tuple cs) (.o0 ps)
 | func {fn:Fn} {xs ys:Array Value} {ps qs:List AV} (hl:xs.size=ps.length) (hl':ys.size=qs.length)
  (h:∀ (j:Nat) (x:Value) (q:AV),xs[j]?=some x→ps[j]?=some q→e8 w I ι σ D x q)
  (h':∀ (j:Nat) (x:Value) (q:AV),ys[j]?=some x→qs[j]?=some q→e8 w I ι σ D x q):e8 w I ι σ D (.func fn xs ys) (.func fn ps qs)
 | O5 (b:Bool):e8 w I ι σ D (.bool b) .O5
 | yld {v:Value} {b:Nat} (hD:D b) (h:∃ l,ι b=some l∧v= .func (.yield l) #[] #[]):e8 w I ι σ D v (.yld b)
 | mark (v:Value) (k:Nat):e8 w I ι σ D v (.mark k)
 | undef (v:Value):e8 w I ι σ D v .undef
structure Later0 (w:World) (I:v9) (ι:Nat→Option Nat) (σ:b7) (D:Nat→Prop)
 (w':World) (I':v9) (ι':Nat→Option Nat) (σ':b7) (D':Nat→Prop):Prop where
 keeps:b7r w I w' I'
 names:∀ b,D b→D' b
 live:∀ b o',D b→find σ' b=some o'→∃ o,find σ b=some o∧o'.es=o.es∧o'.len=o.len∧ι' b=ι b
 rows:∀ (r:Nat) (c:Array Value) (T:TypeId) (fz:Nat × Nat),w.heap[r]?=some (Obj.cells c T fz)→∃ (c':Array Value) (fz':Nat × Nat),w'.heap[r]?=some (Obj.cells c' T fz')∧c'.size=c.size
 same:∀ b,D b→ι' b=ι b
def still (o:Obj):Bool:=match o with
 | .cells .. =>false
 | .map .. =>false
 | _=>true
structure q0 (w:World) (I:v9) (ι:Nat→Option Nat) (σ:b7) (D:Nat→Prop)
 (w':World) (I':v9) (ι':Nat→Option Nat) (σ':b7) (D':Nat→Prop):Prop extends Later0 w I ι σ D w' I' ι' σ' D' where
 loops:∀ (r:Nat) (o:Obj),still o=true→w.heap[r]?=some o→w'.heap[r]?=some o
theorem q0.refl {w:World} {I:v9} {ι:Nat→Option Nat} {σ:b7} {D:Nat→Prop}:q0 w I ι σ D w I ι σ D:=
 ⟨⟨fun _ _ _ hi hx=>⟨hx,hi⟩,fun _ h=>h,fun _ o' _ h=>⟨o',h,rfl,rfl,rfl⟩,fun _ c _ fz h=>⟨c,fz,h,rfl⟩,fun _ _=>rfl⟩,fun _ _ _ h=>h⟩
theorem q0.trans {w w' w'':World} {I I' I'':v9} {ι ι' ι'':Nat→Option Nat} {σ σ' σ'':b7} {D D' D'':Nat→Prop}
 (h:q0 w I ι σ D w' I' ι' σ' D') (k:q0 w' I' ι' σ' D' w'' I'' ι'' σ'' D''):q0 w I ι σ D w'' I'' ι'' σ'' D'' where
 keeps:=fun r o x hi hx=>let ⟨a,b⟩:=h.keeps r o x hi hx;k.keeps r o x b a
 names:=fun b hb=>k.names b (h.names b hb)
 live:=fun b o' hb hf=>by
  obtain ⟨o,ho,e1,e2,e3⟩:=k.live b o' (h.names b hb) hf
  obtain ⟨o₂,ho₂,f1,f2,f3⟩:=h.live b o hb ho
  exact ⟨o₂,ho₂,e1.trans f1,e2.trans f2,e3.trans f3⟩
 rows:=fun r c T fz hr=>by
  obtain ⟨c',fz',h1,h2⟩:=h.rows r c T fz hr
  obtain ⟨c'',fz'',k1,k2⟩:=k.rows r c' T fz' h1
  exact ⟨c'',fz'',k1,k2.trans h2⟩
 same:=fun b hb=>(k.same b (h.names b hb)).trans (h.same b hb)
 loops:=fun r o hs hr=>k.loops r o hs (h.loops r o hs hr)
theorem e8.a3U {w w':World} {I I':v9} {ι ι':Nat→Option Nat} {σ σ':b7} {D D':Nat→Prop} (hk:Later0 w I ι σ D w' I' ι' σ' D')
 {v:Value} {p:AV} (h:e8 w I ι σ D v p):e8 w' I' ι' σ' D' v p:=by
 induction h with
 | pv h=>exact .pv (h.mono hk.keeps)
 | emp es=>exact .emp es
 | fsl h=>exact .fsl (h.mono hk.keeps)
 | ptr hD h1 h=>
   refine .ptr (hk.names _ hD) h1 fun o' ho'=>?_
   obtain ⟨o,ho,e1,_,e3⟩:=hk.live _ _ hD ho'
   obtain ⟨r,hr,hv⟩:=h o ho
   exact ⟨r,e3.trans hr,by rw [e1];exact hv⟩
 | own hD h1 h=>
   refine .own (hk.names _ hD) h1 fun o' ho'=>?_
   obtain ⟨o,ho,e1,e2,e3⟩:=hk.live _ _ hD ho'
   obtain ⟨p,cap,hv,hlen,hcap,hx⟩:=h o ho
   refine ⟨p,cap,hv,e2 ▸ hlen,⟨hcap.1,e2 ▸ hcap.2⟩,?_⟩
   rcases hx with hx | ⟨r,c,T,fz,h1,h2,h3,h4⟩
   ·exact .inl hx
   ·obtain ⟨c',fz',k1,k2⟩:=hk.rows r c T fz h3
    exact .inr ⟨r,c',T,fz',e3.trans h1,by rw [e1];exact h2,k1,by rw [e1,k2];exact h4⟩
 | a0u hD h1 h=>
   refine .a0u (hk.names _ hD) h1 fun o' ho'=>?_
   obtain ⟨o,ho,_,_,e3⟩:=hk.live _ _ hD ho'
   obtain ⟨r,hr,hv⟩:=h o ho
   exact ⟨r,e3.trans hr,hv⟩
 | agg hl _ ih=>exact .agg hl ih
 | o0 hl _ ih=>exact .o0 hl ih
 | func hl hl' _ _ ih ih'=>exact .func hl hl' ih ih'
 | O5 b=>exact .O5 b
 | yld hD h=>exact .yld (hk.names _ hD) (by obtain ⟨l,h1,h2⟩:=h;exact ⟨l,(hk.same _ hD).trans h1,h2⟩)
 | mark v k=>exact .mark v k
 | undef v=>exact .undef v
theorem e8.mono {w w':World} {I I':v9} {ι ι':Nat→Option Nat} {σ σ':b7} {D D':Nat→Prop} (hk:q0 w I ι σ D w' I' ι' σ' D')
 {v:Value} {p:AV} (h:e8 w I ι σ D v p):e8 w' I' ι' σ' D' v p:=h.a3U hk.toLater0
end Go.Ab
namespace Go.Ab
inductive RA where
 | t (n:Nat)
 | c (v:AV)
 | f (g:Nat)
 | g (i:Nat)
 deriving Inhabited
inductive ROp where
 | mv (x:RA)
 | pick (c a b:RA)
 | alloc (zero:List AV)
 | box (n:Nat) (x:RA)
 | load (agg:Bool) (n:Nat) (x:RA)
 | store (n:Nat) (a v:RA)
 | bin (op:BinOp) (x y:RA)
 | eqs (neq:Bool) (kinds:List Nat) (x y:RA)
 | eqb (neq:Bool) (x y:RA)
 | a9c (neq:Bool) (x:RA)
 | not (x:RA)
 | neg (x:RA)
 | conv (k:IntKind) (x:RA)
 | same (x:RA)
 | s2b (x:RA)
 | b2s (x:RA)
 | mkf (fn:Fn) (first caps:List RA)
 | b0I
 | insert (m k v:RA)
 | lookup (m k:RA) (zero:AV)
 | b3a (es bytes:Nat) (zero:List PV) (n:RA)
 | clear (es:Nat) (zero:List PV) (x:RA)
 | slice (es:Nat) (x:RA) (lo hi mx:Option RA)
 | a4G (x:RA) (lo hi:Option RA)
 | b0 (x:RA) (off:Nat)
 | field (agg:Bool) (off n:Nat) (x:RA)
 | i6 (es:Nat) (x i:RA)
 | a5Z (len es:Nat) (x i:RA)
 | a6x (neq:Bool) (x:RA)
 | index (agg:Bool) (len es:Nat) (x i:RA)
 | a8p (x i:RA)
 | extract (x:RA) (i:Nat)
 | call (f:RA) (args:List RA)
 | l8 (x:RA)
 | a0m (x:RA)
 | b8k (n:Nat)
 | append (es bytes:Nat) (s x:RA)
 | copy (es:Nat) (d s:RA)
 | mm (isMax:Bool) (xs:List RA)
 | build (zeros:List AV) (parts:List (Nat × Nat × RA))
 | G6 (es n:Nat) (zeros:List AV) (parts:List (Nat × RA))
 deriving Inhabited
structure m7 where
 dst:Option Nat
 op:ROp
 guard:Option (Nat × Bool)
 pre:Nat
 deriving Inhabited
inductive RC where
 | skip
 | b6 (ops:List m7) (draw:Bool)
 | seq (a b:RC)
 | cond (c:RA) (a b:RC)
 | block (id:Nat) (b:RC)
 | loop (live:List Nat) (b:RC)
 | rng (f:RA) (ps:List Nat) (as bd:RC)
 | exit (id:Nat)
 | scope (b:RC)
 | ret
 deriving Inhabited
inductive T where
 | nil
 | leaf (v:AV)
 | node (l r:T)
 deriving Inhabited
def T.l:T→T | .node l _=>l | _=>.nil
def T.r:T→T | .node _ r=>r | _=>.nil
def T.get:Nat→T→Nat→AV
 | 0,.leaf v,_=>v
 | d+1,.node l r,n=>match n % 2 with | 0=>T.get d l (n / 2) | _=>T.get d r (n / 2)
 | _,_,_=>.undef
def T.set:Nat→T→Nat→AV→T
 | 0,_,_,v=>.leaf v
 | d+1,t,n,v=>match n % 2 with | 0=>.node (T.set d t.l (n / 2) v) t.r | _=>.node t.l (T.set d t.r (n / 2) v)
def d7:Nat:=10
structure St where
 tm:T
 σ:b7
 nx:Nat
 nt:Nat
 deriving Inhabited
def AV.cells:AV→List AV
 | .agg cs=>cs
 | .pv (.agg ps)=>ps.map .pv
 | .undef=>[]
 | .mark _=>[]
 | v=>[v]
def AV.a5z:AV→Bool
 | .agg _=>false
 | .o0 _=>false
 | .undef=>false
 | .mark _=>false
 | .pv (.agg _)=>false
 | .pv (.o0 _)=>false
 | _=>true
def AV.a2n:AV→Bool
 | .agg _=>true
 | .pv (.agg _)=>true
 | _=>false
def v5:List AV→Bool
 | []=>true
 | a::l=>a.a5z&&v5 l
mutual
def AV.a5b:AV→Option PV
 | .pv p=>some p
 | .emp es=>some (.emp es)
 | .fsl es rows=>some (.sl es rows)
 | .agg cs=>match T6 cs with | some ps=>some (.agg ps) | none=>none
 | .o0 cs=>match T6 cs with | some ps=>some (.o0 ps) | none=>none
 | .func fn a b=>match T6 a,T6 b with | some ps,some qs=>some (.func fn ps qs) | _,_=>none
 | _=>none
def T6:List AV→Option (List PV)
 | []=>some []
 | a::l=>match a.a5b with
   | some p=>match T6 l with | some ps=>some (p::ps) | none=>none
   | none=>none
end
def a2y:Bool→List AV→Option AV
 | true,cs=>some (.agg cs)
 | false,[x]=>some x
 | false,_=>none
def d9.row?:d9→Nat→Option (List AV)
 | .arr _ rows _,i=>match rows[i]? with | some r=>some (r.map .pv) | none=>none
 | .box _ rows _,i=>rows[i]?
 | .map _,_=>none
def a0s:List (List AV)→Option (List (List PV))
 | []=>some []
 | r::l=>match T6 r with
   | some p=>match a0s l with | some ps=>some (p::ps) | none=>none
   | none=>none
def mkObj (es:Nat) (rows:List (List AV)):d9:=
 match a0s rows with
 | some ps=>.arr es ps false
 | none=>.box es rows false
structure l7 where
 v:AV
 rd:List Nat:=[]
 up:List (Nat × Option d9):=[]
 deriving Inhabited
def l7.of (v:AV):Option l7:=some {v:=v}
def a5f:Nat→AV→AV→Option Bool
 | 0,.pv (.int k a),.pv (.int k' b)=>if k=k' then some (a==b) else none
 | 1,.pv (.bool a),.pv (.bool b)=>some (a==b)
 | 2,.pv (.str a),.pv (.str b)=>some (a==b)
 | _,_,_=>none
def a1N:List Nat→List AV→List AV→Option Bool
 | [],[],[]=>some true
 | k::ks,a::l,b::m=>match a5f k a b with
   | some x=>match a1N ks l m with | some y=>some (x&&y) | none=>none
   | none=>none
 | _,_,_=>none
def binop:BinOp→AV→AV→Option AV
 | op,.pv (.int k a),.pv (.int k' b)=>
   if k=k' then
    match op with
    | .add=>some (.pv (.int k (k.wrap (a+b))))
    | .sub=>some (.pv (.int k (k.wrap (a - b))))
    | .mul=>some (.pv (.int k (k.wrap (a*b))))
    | .quo=>if b=0 then none else some (.pv (.int k (k.wrap (a.tdiv b))))
    | .rem=>if b=0 then none else some (.pv (.int k (a.tmod b)))
    | .eql=>some (.pv (.bool (a==b)))
    | .neq=>some (.pv (.bool (a != b)))
    | .lss=>some (.pv (.bool (decide (a<b))))
    | .leq=>some (.pv (.bool (decide (a≤b))))
    | .gtr=>some (.pv (.bool (decide (a>b))))
    | .geq=>some (.pv (.bool (decide (a≥b))))
    | _=>none
   else none
 | .eql,.pv (.str a),.pv (.str b)=>some (.pv (.bool (a==b)))
 | .neq,.pv (.str a),.pv (.str b)=>some (.pv (.bool (!(a==b))))
 | .add,.pv (.str a),.pv (.str b)=>if a.length+b.length<2 ^ 40 then some (.pv (.str (a++b))) else none
 | _,_,_=>none
def AV.e:AV→AV
 | .pv p=>match p with
   | .emp es=>.emp es
   | q=>.pv q
 | a=>a
def rowsOf (σ:b7) (es:Nat) (a:AV):Option (List (List AV) × List Nat):=match a.e with
 | .emp _=>some ([],[])
 | .fsl e rows=>if e=es then some (rows.map (·.map .pv),[]) else none
 | .pv (.sl e rows)=>if e=es then some (rows.map (·.map .pv),[]) else none
 | .own b i n=>match find σ b with
   | some (.arr e rows _)=>if e=es then some (((rows.drop i).take n).map (·.map .pv),[b]) else none
   | some (.box e rows _)=>if e=es then some ((rows.drop i).take n,[b]) else none
   | _=>none
 | _=>none
def l4 (σ:b7) (es:Nat) (a:AV):Option (List (List PV) × List Nat):=match a.e with
 | .emp _=>some ([],[])
 | .fsl e rows=>if e=es then some (rows,[]) else none
 | .pv (.sl e rows)=>if e=es then some (rows,[]) else none
 | .own b i n=>match find σ b with
   | some (.arr e rows _)=>if e=es then some ((rows.drop i).take n,[b]) else none
   | _=>none
 | _=>none
def idxOf:AV→Option Int
 | .pv (.int _ n)=>some n
 | _=>none
def j4 (ev:RA→AV) (d:Int):Option RA→Option Int
 | none=>some d
 | some x=>idxOf (ev x)
def m9 (k:List UInt8):List (List UInt8 × AV)→Option AV
 | []=>none
 | (a,v)::l=>if a==k then some v else m9 k l
def ltB:List UInt8→List UInt8→Bool
 | _,[]=>false
 | [],_::_=>true
 | a::l,b::m=>match Nat.blt a.toNat b.toNat with
   | true=>true
   | false=>match Nat.blt b.toNat a.toNat with
     | true=>false
     | false=>ltB l m
def W5 (k:List UInt8) (v:AV):List (List UInt8 × AV)→List (List UInt8 × AV)
 | []=>[(k,v)]
 | (a,x)::l=>match ltB k a with
   | true=>(k,v)::(a,x)::l
   | false=>(a,x)::W5 k v l
def F3 (row:List AV) (j:Nat) (cs:List AV):List AV:=row.take j++cs++row.drop (j+cs.length)
def a6t (cells:List AV):List (Nat × Nat × AV)→Option (List AV)
 | []=>some cells
 | (off,n,v)::l=>if v.cells.length=n∧off+n≤cells.length then a6t (F3 cells off v.cells) l else none
def mm2 (isMax:Bool):AV→AV→Option AV
 | .pv (.int k a),.pv (.int k' b)=>if k=k' then some (.pv (.int k (if isMax then (if b>a then b else a) else (if b<a then b else a)))) else none
 | _,_=>none
def mmF (isMax:Bool) (ev:RA→AV):AV→List RA→Option AV
 | a,[]=>some a
 | a,x::l=>match mm2 isMax a (ev x) with | some r=>mmF isMax ev r l | none=>none
def R8:List (List PV)→Option (List UInt8)
 | []=>some []
 | [.int .u8 n]::l=>match R8 l with | some r=>some (UInt8.ofNat n.toNat::r) | none=>none
 | _=>none
def step (σ:b7) (nm:Nat) (ev:RA→AV):ROp→Option l7
 | .mv x=>l7.of (ev x)
 | .pick c a b=>match ev c with
   | .pv (.bool x)=>(match x with | true=>l7.of (ev a) | false=>l7.of (ev b))
   | _=>none
 | .alloc zero=>some {v:=.ptr nm 0 0,up:=[(nm,some (.box zero.length [zero] false))]}
 | .box n x=>if (ev x).cells.length=n∧v5 (ev x).cells=true then some {v:=.ptr nm 0 0,up:=[(nm,some (.box n [(ev x).cells] false))]} else none
 | .load agg n x=>match ev x with
   | .ptr b i j=>match find σ b with
     | some o=>match o.row? i with
       | some row=>if j+n≤row.length then (match a2y agg ((row.drop j).take n) with | some v=>some {v:=v,rd:=[b]} | none=>none) else none
       | none=>none
     | none=>none
   | .pv (.ref cs)=>if n≤cs.length then (match a2y agg ((cs.take n).map .pv) with | some v=>some {v:=v} | none=>none) else none
   | _=>none
 | .store n a v=>match ev a with
   | .ptr b i j=>match find σ b with
     | some (.box es rows false)=>match rows[i]? with
       | some row=>if (ev v).cells.length=n∧j+n≤row.length∧v5 (ev v).cells=true then
        some {v:=.undef,rd:=[b],up:=[(b,some (.box es (rows.set i (F3 row j (ev v).cells)) false))]} else none
       | none=>none
     | some (.arr es rows false)=>match rows[i]? with
       | some row=>match T6 (ev v).cells with
         | some ps=>if (ev v).cells.length=n∧j+n≤row.length∧v5 (ev v).cells=true then
          some {v:=.undef,rd:=[b],up:=[(b,some (.arr es (rows.set i (row.take j++ps++row.drop (j+ps.length))) false))]} else none
         | none=>if (ev v).cells.length=n∧j+n≤row.length∧v5 (ev v).cells=true then
          some {v:=.undef,rd:=[b],up:=[(b,some (.box es ((rows.map (·.map AV.pv)).set i (F3 (row.map .pv) j (ev v).cells)) false))]} else none
       | none=>none
     | _=>none
   | _=>none
 | .bin op x y=>match binop op (ev x) (ev y) with | some v=>l7.of v | none=>none
 | .eqs neq kinds x y=>match a1N kinds (ev x).cells (ev y).cells with
   | some b=>if (ev x).a2n=true∧(ev y).a2n=true then l7.of (.pv (.bool (match neq with | true=>!b | false=>b))) else none
   | none=>none
 | .eqb neq x y=>match ev x,ev y with
   | .pv (.bool a),.pv (.bool b)=>l7.of (.pv (.bool (match neq with | true=>!(a==b) | false=>a==b)))
   | _,_=>none
 | .a9c neq x=>match (ev x).e with
   | .emp _=>l7.of (.pv (.bool (!neq)))
   | .fsl _ rows=>(match rows with | []=>l7.of .O5 | _::_=>l7.of (.pv (.bool neq)))
   | .pv (.sl _ rows)=>(match rows with | []=>l7.of .O5 | _::_=>l7.of (.pv (.bool neq)))
   | .own b _ n=>match find σ b with
     | some _=>(match n with | 0=>some {v:=.O5,rd:=[b]} | _+1=>some {v:=.pv (.bool neq),rd:=[b]})
     | none=>none
   | _=>none
 | .not x=>match ev x with | .pv (.bool b)=>l7.of (.pv (.bool (!b))) | _=>none
 | .neg x=>match ev x with | .pv (.int k n)=>l7.of (.pv (.int k (k.wrap (0 - n)))) | _=>none
 | .conv k x=>match ev x with | .pv (.int _ n)=>l7.of (.pv (.int k (k.wrap n))) | _=>none
 | .same x=>match ev x with | .pv (.str s)=>l7.of (.pv (.str s)) | _=>none
 | .s2b x=>match ev x with
   | .pv (.str s)=>some {v:=.own nm 0 s.length,up:=[(nm,some (.arr 1 (s.map fun b=>[PV.int .u8 b.toNat]) false))]}
   | _=>none
 | .b2s x=>match l4 σ 1 (ev x) with
   | some (rows,rd)=>match R8 rows with | some s=>some {v:=.pv (.str s),rd:=rd} | none=>none
   | none=>none
 | .mkf fn first caps=>l7.of (.func fn (first.map ev) (caps.map ev))
 | .b0I=>some {v:=.a0u nm,up:=[(nm,some (.map []))]}
 | .insert m k v=>match ev m,ev k with
   | .a0u b,.pv (.str s)=>match find σ b with
     | some (.map ents)=>match m9 s ents with
       | none=>some {v:=.undef,rd:=[b],up:=[(b,some (.map (W5 s (ev v) ents)))]}
       | some _=>none
     | _=>none
   | _,_=>none
 | .lookup m k zero=>match ev m,ev k with
   | .a0u b,.pv (.str s)=>match find σ b with
     | some (.map ents)=>some {v:=match m9 s ents with | some v=>.o0 [v,.pv (.bool true)] | none=>.o0 [zero,.pv (.bool false)],rd:=[b]}
     | _=>none
   | _,_=>none
 | .clear es zero x=>match ev x with
   | .own b i n=>match find σ b with
     | some (.arr es' rows false)=>if es'=es∧i+n≤rows.length∧0<n∧zero.length=es then some {v:=.o0 [],rd:=[b],up:=[(b,some (.arr es (rows.take i++List.replicate n zero++rows.drop (i+n)) false))]} else none
     | _=>none
   | _=>none
 | .b3a es bytes zero n=>match idxOf (ev n) with
   | some k=>if 0≤k∧k*bytes≤2 ^ 40∧zero.length=es∧0<bytes then some {v:=.own nm 0 k.toNat,up:=[(nm,some (.arr es (List.replicate k.toNat zero) false))]} else none
   | none=>none
 | .slice es x lo hi mx=>match (ev x).e with
   | .own b i n=>match find σ b with
     | some o=>match j4 ev 0 lo,j4 ev n hi,j4 ev ((o.len:Int) - i) mx with
       | some l,some h,some m=>if 0≤l∧l≤h∧h≤m∧(mx.isNone=true∨m≤n)∧o.es=es∧(mx.isNone=true∨(o.len:Int)≤i+m) then some {v:=.own b (i+l.toNat) (h - l).toNat,rd:=[b]} else none
       | _,_,_=>none
     | none=>none
   | .pv (.sl e rows)=>if e=es then sliceP ev es rows lo hi mx else none
   | .fsl e rows=>if e=es then sliceP ev es rows lo hi mx else none
   | .emp e=>match j4 ev 0 lo,j4 ev 0 hi,j4 ev 0 mx with
     | some l,some h,some m=>if l=0∧h=0∧m=0 then l7.of (.emp e) else none
     | _,_,_=>none
   | _=>none
 | .a4G x lo hi=>match ev x with
   | .pv (.str s)=>match j4 ev 0 lo,j4 ev s.length hi with
     | some l,some h=>if 0≤l∧l≤h∧h≤s.length then l7.of (.pv (.str ((s.take h.toNat).drop l.toNat))) else none
     | _,_=>none
   | _=>none
 | .b0 x off=>match ev x with
   | .ptr b i j=>match find σ b with | some _=>some {v:=.ptr b i (j+off),rd:=[b]} | none=>none
   | .pv (.ref cs)=>l7.of (.pv (.ref (cs.drop off)))
   | _=>none
 | .field agg off n x=>if off+n≤(ev x).cells.length∧(ev x).a2n=true then (match a2y agg (((ev x).cells.drop off).take n) with | some v=>l7.of v | none=>none) else none
 | .i6 es x i=>match idxOf (ev i) with
   | some k=>match ev x with
     | .own b i n=>match find σ b with
       | some o=>if 0≤k∧k<n∧o.es=es then some {v:=.ptr b (i+k.toNat) 0,rd:=[b]} else none
       | none=>none
     | .pv (.sl e rows)=>if e=es then iaddrP k rows else none
     | .fsl e rows=>if e=es then iaddrP k rows else none
     | _=>none
   | none=>none
 | .a5Z len es x i=>match idxOf (ev i) with
   | some k=>if 0≤k∧k<len then (match ev x with
     | .ptr b r j=>match find σ b with | some _=>some {v:=.ptr b r (j+k.toNat*es),rd:=[b]} | none=>none
     | .pv (.ref cs)=>l7.of (.pv (.ref (cs.drop (k.toNat*es))))
     | _=>none) else none
   | none=>none
 | .a6x neq x=>match ev x with
   | .func _ _ _=>l7.of (.pv (.bool neq))
   | .pv (.func _ _ _)=>l7.of (.pv (.bool neq))
   | .pv .nilFunc=>l7.of (.pv (.bool (!neq)))
   | _=>none
 | .index agg len es x i=>match idxOf (ev i) with
   | some k=>if 0≤k∧k<len∧(ev x).cells.length=len*es∧(ev x).a2n=true then (match a2y agg (((ev x).cells.drop (k.toNat*es)).take es) with | some v=>l7.of v | none=>none) else none
   | none=>none
 | .a8p x i=>match ev x,idxOf (ev i) with
   | .pv (.str s),some k=>if 0≤k then (match s[k.toNat]? with | some b=>l7.of (.pv (.int .u8 b.toNat)) | none=>none) else none
   | _,_=>none
 | .extract x i=>match ev x with
   | .o0 vs=>match vs[i]? with | some v=>l7.of v | none=>none
   | .pv (.o0 ps)=>match ps[i]? with | some p=>l7.of (.pv p) | none=>none
   | _=>none
 | .call _ _=>none
 | .l8 x=>match (ev x).e with
   | .own b _ n=>match find σ b with | some _=>some {v:=.pv (.int .i64 n),rd:=[b]} | none=>none
   | .pv (.sl _ rows)=>l7.of (.pv (.int .i64 rows.length))
   | .fsl _ rows=>l7.of (.pv (.int .i64 rows.length))
   | .emp _=>l7.of (.pv (.int .i64 0))
   | _=>none
 | .a0m x=>match ev x with | .pv (.str s)=>l7.of (.pv (.int .i64 s.length)) | _=>none
 | .b8k n=>l7.of (.pv (.int .i64 n))
 | .append es bytes s x=>match (ev s).e with
   | .emp _=>match rowsOf σ es (ev x) with
     | some (xs,rd)=>if xs.length*bytes≤2 ^ 40 then some {v:=.own nm 0 xs.length,rd:=rd,up:=[(nm,some (mkObj es xs))]} else none
     | none=>none
   | .fsl e rows=>match l4 σ es (ev x) with
     | some (xs,rd)=>if (rows.length+xs.length)*bytes≤2 ^ 40∧e=es then some {v:=.pv (.sl es (rows++xs)),rd:=rd} else none
     | none=>none
   | .own b 0 n=>match find σ b with
     | some (.arr es' rows sl)=>if rows.length=n∧es'=es then (match l4 σ es (ev x) with
       | some (xs,rd)=>if (n+xs.length)*bytes≤2 ^ 40 then some {v:=.own nm 0 (n+xs.length),rd:=b::rd,up:=[(b,none),(nm,some (.arr es (rows++xs) sl))]} else none
       | none=>match rowsOf σ es (ev x) with
         | some (xs,rd)=>if (n+xs.length)*bytes≤2 ^ 40 then some {v:=.own nm 0 (n+xs.length),rd:=b::rd,up:=[(b,none),(nm,some (.box es (rows.map (·.map AV.pv)++xs) sl))]} else none
         | none=>none) else (match sl with
           | true=>none
           | false=>match l4 σ es (ev x) with
             | some (xs,rd)=>if n+xs.length≤rows.length∧0<rows.length∧es'=es then some {v:=.own b 0 (n+xs.length),rd:=b::rd,up:=[(b,some (.arr es (rows.take n++xs++rows.drop (n+xs.length)) false))]} else none
             | none=>none)
     | some (.box es' rows sl)=>if rows.length=n∧es'=es then (match rowsOf σ es (ev x) with
       | some (xs,rd)=>if (n+xs.length)*bytes≤2 ^ 40 then some {v:=.own nm 0 (n+xs.length),rd:=b::rd,up:=[(b,none),(nm,some (.box es (rows++xs) sl))]} else none
       | none=>none) else none
     | _=>none
   | _=>none
 | .copy es d s=>match ev d with
   | .own b i n=>match find σ b with
     | some (.arr es' rows false)=>if es'=es then (match l4 σ es (ev s) with
       | some (xs,rd)=>if i+n≤rows.length then
        some {v:=.pv (.int .i64 (min xs.length n:Nat)),rd:=b::rd,up:=[(b,some (.arr es (rows.take i++xs.take (min xs.length n)++rows.drop (i+min xs.length n)) false))]} else none
       | none=>none) else none
     | _=>none
   | _=>none
 | .mm isMax xs=>match xs with
   | []=>none
   | x::l=>match mmF isMax ev (ev x) l with | some v=>l7.of v | none=>none
 | .build zeros parts=>match a6t zeros (parts.map fun (o,n,x)=>(o,n,ev x)) with | some cs=>l7.of (.agg cs) | none=>none
 | .G6 es n zeros parts=>match a6t (List.replicate n zeros).flatten (parts.map fun (i,x)=>(i*es,es,ev x)) with
   | some cs=>if v5 cs=true then some {v:=.own nm 0 n,up:=[(nm,some (mkObj es (chop es n cs)))]} else none
   | none=>none
where
 sliceP (ev:RA→AV) (es:Nat) (rows:List (List PV)) (lo hi mx:Option RA):Option l7:=
  match j4 ev 0 lo,j4 ev rows.length hi,j4 ev rows.length mx with
  | some l,some h,some m=>if 0≤l∧l≤h∧h≤m∧m≤rows.length then
   (match mx with
    | some _=>if h=m then l7.of (.fsl es ((rows.take h.toNat).drop l.toNat)) else l7.of (.pv (.sl es ((rows.take h.toNat).drop l.toNat)))
    | none=>l7.of (.pv (.sl es ((rows.take h.toNat).drop l.toNat)))) else none
  | _,_,_=>none
 iaddrP (k:Int) (rows:List (List PV)):Option l7:=
  if 0≤k then (match rows[k.toNat]? with
   | some row=>l7.of (.pv (.ref row))
   | none=>none) else none
 chop (es:Nat):Nat→List AV→List (List AV)
  | 0,_=>[]
  | n+1,cs=>cs.take es::chop es n (cs.drop es)
end Go.Ab
