/- A part of the proof: the texts Ab14, Ab15, Ab16, Ab17, Ab18, Ab19, Ab20, Ab21, Ab22, Ab23, Ab24, Ab25. Under: nothing. -/
import Derived.Test.YtomfaadmmchdcaaGreatDoorG01
import Derived.IntWalk
set_option linter.unusedVariables false
namespace Go.Ab
open Go.RowKit
section
variable {P:Program} {B:Nat} {w0:World} {I0:v9} {w w':World} {I:v9} {ι:Nat→Option Nat} {σ:b7} {D:Nat→Prop} {nm:Nat} {ρ:Operand→Value} {ev:RA→AV} {e:l7}
mutual
theorem c0N:∀ (a:AV) (v:Value) (p:PV),a.a5b=some p→e8 w I ι σ D v a→z5 w I v p
 | .pv p,v,q,h,hr=>by simp only [AV.a5b] at h;cases h;cases hr with | pv h=>exact h
 | .emp es,v,q,h,hr=>by
   simp only [AV.a5b] at h;cases h
   cases hr with
   | emp=>exact .emp _
 | .fsl es rows,v,q,h,hr=>by simp only [AV.a5b] at h;cases h;cases hr with | fsl h=>exact h
 | .agg cs,v,q,h,hr=>by
   simp only [AV.a5b] at h
   split at h
   ·rename_i ps hps
    cases h
    cases hr with
    | agg hl hh=>
      obtain ⟨e1,e2⟩:=a1F cs ps hps
      refine .agg (hl.trans e1) fun j x q hx hq=>?_
      have hj:j<cs.length:=by rw [e1];exact (List.getElem?_eq_some_iff.1 hq).1
      exact e2 j x cs[j] q (List.getElem?_eq_getElem hj) hq (hh j x cs[j] hx (List.getElem?_eq_getElem hj))
   ·cases h
 | .o0 cs,v,q,h,hr=>by
   simp only [AV.a5b] at h
   split at h
   ·rename_i ps hps
    cases h
    cases hr with
    | o0 hl hh=>
      obtain ⟨e1,e2⟩:=a1F cs ps hps
      refine .o0 (hl.trans e1) fun j x q hx hq=>?_
      have hj:j<cs.length:=by rw [e1];exact (List.getElem?_eq_some_iff.1 hq).1
      exact e2 j x cs[j] q (List.getElem?_eq_getElem hj) hq (hh j x cs[j] hx (List.getElem?_eq_getElem hj))
   ·cases h
 | .func fn xs ys,v,q,h,hr=>by
   simp only [AV.a5b] at h
   split at h
   ·rename_i ps qs hps hqs
    cases h
    cases hr with
    | func hl hl' hh hh'=>
      obtain ⟨e1,e2⟩:=a1F xs ps hps
      obtain ⟨f1,f2⟩:=a1F ys qs hqs
      refine .func (hl.trans e1) (hl'.trans f1) (fun j x q hx hq=>?_) (fun j x q hx hq=>?_)
      ·have hj:j<xs.length:=by rw [e1];exact (List.getElem?_eq_some_iff.1 hq).1
       exact e2 j x xs[j] q (List.getElem?_eq_getElem hj) hq (hh j x xs[j] hx (List.getElem?_eq_getElem hj))
      ·have hj:j<ys.length:=by rw [f1];exact (List.getElem?_eq_some_iff.1 hq).1
       exact f2 j x ys[j] q (List.getElem?_eq_getElem hj) hq (hh' j x ys[j] hx (List.getElem?_eq_getElem hj))
   ·cases h
 | .ptr b i j,v,q,h,hr=>by simp [AV.a5b] at h
 | .own b i n,v,q,h,hr=>by simp [AV.a5b] at h
 | .a0u b,v,q,h,hr=>by simp [AV.a5b] at h
 | .undef,v,q,h,hr=>by simp [AV.a5b] at h
theorem a1F:∀ (l:List AV) (ps:List PV),T6 l=some ps→l.length=ps.length∧∀ (j:Nat) (x:Value) (a:AV) (p:PV),l[j]?=some a→ps[j]?=some p→e8 w I ι σ D x a→z5 w I x p
 | [],ps,h=>by simp only [T6] at h;cases h;exact ⟨rfl,fun j x a p ha=>by simp at ha⟩
 | a::l,ps,h=>by
   simp only [T6] at h
   split at h
   ·rename_i p hp
    split at h
    ·rename_i qs hqs
     cases h
     obtain ⟨e1,e2⟩:=a1F l qs hqs
     refine ⟨by simp [e1],fun j x a' p' ha hp' hr=>?_⟩
     cases j with
     | zero=>simp at ha hp';subst ha;subst hp';exact c0N a x p hp hr
     | succ j=>simp at ha hp';exact e2 j x a' p' ha hp' hr
    ·cases h
   ·cases h
end
def RowsIn (w:World) (I:v9) (ι:Nat→Option Nat) (σ:b7) (D:Nat→Prop) (c:Array Value) (es:Nat) (get:Nat→Option (List AV)):Prop:=
 ∀ i row,get i=some row→row.length=es∧∀ j v,row[j]?=some v→∃ x,c[i*es+j]?=some x∧a6k w I ι σ D x v
theorem a7K:∀ (rows:List (List AV)) (ps:List (List PV)),a0s rows=some ps→rows.length=ps.length∧∀ (i:Nat) (p:List PV),ps[i]?=some p→∃ r,rows[i]?=some r∧T6 r=some p
 | [],ps,h=>by simp only [a0s] at h;cases h;exact ⟨rfl,fun i p hp=>by simp at hp⟩
 | r::rows,ps,h=>by
   simp only [a0s] at h
   split at h
   ·rename_i p hp
    split at h
    ·rename_i qs hqs
     cases h
     obtain ⟨e1,e2⟩:=a7K rows qs hqs
     refine ⟨by simp [e1],fun i p' hp'=>?_⟩
     cases i with
     | zero=>simp at hp';subst hp';exact ⟨r,rfl,hp⟩
     | succ i=>simp at hp';simpa using e2 i p' hp'
    ·cases h
   ·cases h
theorem b2a {c:Array Value} {es:Nat} {rows:List (List AV)} (h:RowsIn w I ι σ D c es (fun i=>rows[i]?)):
 (mkObj es rows).es=es∧(mkObj es rows).len=rows.length∧(mkObj es rows).L0=false∧(mkObj es rows).O3=false∧RowsIn w I ι σ D c es (mkObj es rows).row?:=by
 unfold mkObj
 split
 ·rename_i ps hps
  obtain ⟨e1,e2⟩:=a7K rows ps hps
  refine ⟨rfl,by simp [d9.len,e1],rfl,rfl,fun i row hr=>?_⟩
  simp only [d9.row?] at hr
  split at hr
  ·rename_i p hp
   cases hr
   obtain ⟨r,hr,hpr⟩:=e2 i p hp
   obtain ⟨f1,f2⟩:=a1F (w:=w) (I:=I) (ι:=ι) (σ:=σ) (D:=D) r p hpr
   obtain ⟨g1,g2⟩:=h i r hr
   refine ⟨by simp [← f1,g1],fun j v hv=>?_⟩
   simp only [List.getElem?_map,Option.map_eq_some_iff] at hv
   obtain ⟨q,hq,rfl⟩:=hv
   have hj:j<r.length:=by rw [f1];exact (List.getElem?_eq_some_iff.1 hq).1
   obtain ⟨x,hx,hrep⟩:=g2 j r[j] (List.getElem?_eq_getElem hj)
   exact ⟨x,hx,hrep.1,.pv (f2 j x r[j] q (List.getElem?_eq_getElem hj) hq hrep.2)⟩
  ·cases hr
 ·exact ⟨rfl,rfl,rfl,rfl,h⟩
theorem a4R {s:Sem Next} {v:Value} {c:Array Value} {T:TypeId} {fz:Nat × Nat} {o:d9} (hc:Core B w0 I0 w I ι σ D) (hn:¬ D nm)
 (hr:s.run P w= .ok (.value v) w') (hw:w'.heap=w.heap.push (Obj.cells c T fz)) (hb:Below B w0 w') (hfz:Fz c fz) (hm:o.L0=false) (hlen:o.len*o.es≤c.size)
 (hrow:RowsIn w I ι σ D c o.es o.row?) (hu:e.up=[(nm,some o)])
 (hv:e8 w' I (l5 ι nm (some w.heap.size)) (Q7 σ nm (some o)) (a2l D nm) v e.v):Good P B w0 I0 w I ι σ D nm e s:=by
 have hBw:B≤w.heap.size:=Nat.le_trans hc.hB hc.below.size
 have hs:=hc.u6.new hBw hn hw hfz hm hlen hrow
 refine ⟨_,v,w',hr,.inl rfl,I,l5 ι nm (some w.heap.size),a2l D nm,?_,?_,?_,?_⟩
 ·rw [hu];exact ⟨hs,hb,hc.hB,hc.ext,hc.old⟩
 ·rw [hu];exact a7a hn hc.u6.bnd hw
 ·rw [hu];exact hv
 ·rintro b (h | rfl)
  ·exact .inl h
  ·exact .inr ⟨Nat.le_refl _,by simp [g9]⟩
theorem b2y {o:d9} {r:Nat} (hD:D nm) (hι:ι nm=some r):e8 w I ι (Q7 σ nm (some o)) D (.pointer (some ⟨r,0,none⟩)) (.ptr nm 0 0):=by
 refine .ptr hD rfl fun o' ho'=>?_
 exact ⟨r,hι,by simp⟩
theorem a3v {o:d9} {r n cap:Nat} {c:Array Value} {T:TypeId} {fz:Nat × Nat} (hD:D nm) (hι:ι nm=some r) (hw:w.heap[r]?=some (Obj.cells c T fz)) (hn:n=o.len) (hcap:n≤cap) (hsz:cap*o.es≤c.size):
 e8 w I ι (Q7 σ nm (some o)) D (.slice (some ⟨r,0,none⟩) n cap) (.own nm 0 n):=by
 refine .own hD rfl fun o' ho'=>?_
 rw [l6,if_pos rfl] at ho';cases ho'
 exact ⟨_,cap,rfl,by omega,⟨hcap,by omega⟩,.inr ⟨r,c,T,fz,hι,by simp,hw,by simpa using hsz⟩⟩
theorem a1X (hc:Core B w0 I0 w I ι σ D) (ob:Obj):Below B w0 (w.alloc ob):=hc.below.alloc (Nat.le_trans hc.hB hc.below.size) ob
theorem a1G {as:List AV} (h:v5 as=true):∀ a ∈ as,a.a5z=true:=by
 induction as with
 | nil=>simp
 | cons a as ih=>
   simp only [v5,Bool.and_eq_true] at h
   intro x hx
   rcases List.mem_cons.1 hx with rfl | hx
   ·exact h.1
   ·exact ih h.2 x hx
theorem a0o {v:Value} {a:AV} {n:Nat} (hv:e8 w I ι σ D v a) (hl:a.cells.length=n) (hn0:n≠0) (hall:v5 a.cells=true):K6 w I ι σ D v.cells a.cells∧∀ x ∈ v.cells.toList,x.oneCell'=true:=by
 have hu:a.a2N=false:=by cases a <;>simp_all [AV.a2N,AV.cells]
 obtain ⟨s1,s2⟩:=a9Q hv hu
 refine ⟨⟨s1,s2⟩,fun x hx=>?_⟩
 obtain ⟨k,hk⟩:=List.getElem?_of_mem hx
 have hk':k<a.cells.length:=by have:=(List.getElem?_eq_some_iff.1 hk).1;simp at this;omega
 exact (s2 k x a.cells[k] (by simpa using hk) (List.getElem?_eq_getElem hk')).a7f (a1G hall _ (List.getElem_mem hk'))
theorem b8q {v:Value} {a:AV} (h:b0F v a=true):v.oneCell'=true:=by
 unfold b0F at h
 split at h <;>first | rfl | cases h
theorem b3q:∀ {l:List Value} {m:List AV},a5U l m=true→∀ x ∈ l,x.oneCell'=true
 | [],_,_=>by simp
 | v::l,a::m,h=>by
   simp only [a5U,Bool.and_eq_true] at h
   intro x hx
   rcases List.mem_cons.1 hx with rfl | hx
   ·exact b8q h.1
   ·exact b3q h.2 x hx
 | _::_,[],h=>by simp [a5U] at h
theorem c0J {c:Array Value} {as:List AV} (h:K6 w I ι σ D c as) (h1:∀ x ∈ c.toList,x.oneCell'=true):RowsIn w I ι σ D c as.length (fun i=>[as][i]?):=by
 intro i row hr
 cases i with
 | zero=>
   simp at hr;subst hr
   refine ⟨rfl,fun j v hv=>?_⟩
   have hj:j<c.size:=by rw [h.1];exact (List.getElem?_eq_some_iff.1 hv).1
   exact ⟨c[j],by simp [hj],h1 _ (by simp),h.2 j _ v (Array.getElem?_eq_getElem hj) hv⟩
 | succ i=>simp at hr
variable (hc:Core B w0 I0 w I ι σ D) (hn:¬ D nm) (hev:∀ o r,i7 o r=true→e8 w I ι σ D (ρ o) (ev r))
include hc hn
theorem b9e {t:TypeId} {zero:List AV} (hz:Z0 P t zero=true) (h:step σ nm ev (.alloc zero)=some e):
 Good P B w0 I0 w I ι σ D nm e (do pure (.value (← Instr.alloc t true (.tuple #[])))):=by
 simp only [step] at h;cases h
 obtain ⟨z,hzr,hzc⟩:=a5e hz w
 have hcr:=a1Y (w:=w) (I:=I) (ι:=ι) (σ:=σ) (D:=D) hzc
 refine a4R (w':=w.alloc (.cells z.cells t)) (v:=.pointer (some ⟨w.heap.size,0,none⟩)) (c:=z.cells) (T:=t) (fz:=(0,0)) hc hn ?_ rfl (a1X hc _) (.inr (Nat.le_refl _)) rfl ?_ ?_ rfl ?_
 ·simp [Instr.alloc,hzr,newVar,newRow]
 ·simp [d9.len,d9.es,hcr.1]
 ·exact c0J hcr (b3q hzc)
 ·exact b2y (.inr rfl) (by simp [l5])
include hev
theorem c2R {t n:Nat} {x:Operand} {y:RA} (hn0:n≠0) (hx:i7 x y=true) (h:step σ nm ev (.box n y)=some e):
 Good P B w0 I0 w I ι σ D nm e (do pure (.value (← Instr.box t (ρ x)))):=by
 simp only [step] at h
 split at h
 ·rename_i hlen
  cases h
  obtain ⟨hlen,hall⟩:=hlen
  obtain ⟨hcr,hone⟩:=a0o (hev _ _ hx) hlen hn0 hall
  refine a4R (w':=w.alloc (.cells (ρ x).cells t)) (v:=.pointer (some ⟨w.heap.size,0,none⟩)) (c:=(ρ x).cells) (T:=t) (fz:=(0,0)) hc hn ?_ rfl (a1X hc _) (.inr (Nat.le_refl _)) rfl ?_ ?_ rfl ?_
  ·simp [Instr.box,newVar,newRow]
  ·simp [d9.len,d9.es,hcr.1,hlen]
  ·have:=c0J hcr hone
   rw [hlen] at this
   exact this
  ·exact b2y (.inr rfl) (by simp [l5])
 ·cases h
end
end Go.Ab
namespace Go.Ab
open Go.RowKit
section
variable {P:Program} {B:Nat} {w0:World} {I0:v9} {w w':World} {I:v9} {ι:Nat→Option Nat} {σ:b7} {D:Nat→Prop} {nm:Nat} {ρ:Operand→Value} {ev:RA→AV} {e:l7}
theorem flat_get {α:Type} (l:List α):∀ (n k:Nat),k<n*l.length→(List.replicate n l).flatten[k]?=l[k % l.length]?
 | 0,k,h=>by simp at h
 | n+1,k,h=>by
   rw [List.replicate_succ,List.flatten_cons]
   by_cases hk:k<l.length
   ·rw [List.getElem?_append_left hk,Nat.mod_eq_of_lt hk]
   ·have hpos:0<l.length:=by
     rcases Nat.eq_zero_or_pos l.length with h0 | h0
     ·rw [h0] at h;simp at h
     ·exact h0
    rw [List.getElem?_append_right (by omega),flat_get l n (k - l.length) (by rw [Nat.add_mul,Nat.one_mul] at h;omega)]
    congr 1
    have:k=(k - l.length)+l.length:=by omega
    rw [this,Nat.add_mod_right];simp
theorem b5e (es:Nat):∀ (n:Nat) (cs:List AV) (i:Nat),i<n→(step.chop es n cs)[i]?=some ((cs.drop (i*es)).take es)
 | 0,_,_,h=>by omega
 | n+1,cs,0,_=>by simp [step.chop]
 | n+1,cs,i+1,h=>by
   simp only [step.chop,List.getElem?_cons_succ]
   rw [b5e es n _ i (by omega),List.drop_drop]
   congr 3
   rw [Nat.add_mul];omega
theorem a3O (es:Nat):∀ (n:Nat) (cs:List AV),(step.chop es n cs).length=n
 | 0,_=>rfl
 | n+1,cs=>by simp [step.chop,a3O es n]
theorem b8r {c:Array Value} {cs:List AV} {es n:Nat} (h:K6 w I ι σ D c cs) (hall:v5 cs=true) (hl:cs.length=n*es):RowsIn w I ι σ D c es (fun i=>(step.chop es n cs)[i]?):=by
 intro i row hr
 dsimp only at hr
 have hi:i<n:=by have:=(List.getElem?_eq_some_iff.1 hr).1;rwa [a3O] at this
 rw [b5e es n cs i hi] at hr;cases hr
 have hb:i*es+es≤n*es:=by
  calc i*es+es=(i+1)*es:=by rw [Nat.add_mul,Nat.one_mul]
   _≤n*es:=Nat.mul_le_mul_right _ hi
 refine ⟨by simp;omega,fun j v hv=>?_⟩
 have hj:j<es:=by have:=(List.getElem?_eq_some_iff.1 hv).1;simp at this;omega
 rw [List.getElem?_take_of_lt hj,List.getElem?_drop] at hv
 have hlt:i*es+j<c.size:=by rw [h.1];omega
 have hrp:=h.2 _ _ _ (Array.getElem?_eq_getElem hlt) hv
 exact ⟨c[i*es+j],Array.getElem?_eq_getElem hlt,hrp.a7f (a1G hall _ (List.mem_of_getElem? hv)),hrp⟩
theorem b0w {zero:Array Value} {zeros:List AV} {n es:Nat} (h:n*es≠0→K6 w I ι σ D zero zeros) (hl:zeros.length=es):
 K6 w I ι σ D ((Array.range (n*es)).map (zero[·% zero.size]!)) (List.replicate n zeros).flatten:=by
 refine ⟨by simp [hl],fun j x q hx hq=>?_⟩
 have hj:j<n*es:=by have:=(Array.getElem?_eq_some_iff.1 hx).1;simpa using this
 have hz:=h (by omega)
 have hes:0<es:=by rcases Nat.eq_zero_or_pos es with h0 | h0;(rw [h0] at hj;simp at hj);exact h0
 rw [flat_get zeros n j (by rw [hl];exact hj),hl] at hq
 simp only [Array.getElem?_map,Array.getElem?_range,hj,if_true,Option.map_some,Option.some.injEq] at hx
 have hsz:zero.size=es:=hz.1.trans hl
 have hm:j % es<zero.size:=by rw [hsz];exact Nat.mod_lt _ hes
 rw [hsz,getElem!_pos zero (j % es) hm] at hx
 exact hz.2 (j % es) x q (by rw [Array.getElem?_eq_getElem hm,hx]) hq
theorem a8R:∀ (qs:List (Nat × Nat × AV)) (as r:List AV),a6t as qs=some r→r.length=as.length
 | [],as,r,h=>by simp only [a6t] at h;cases h;rfl
 | (o,n,a)::qs,as,r,h=>by
   simp only [a6t] at h
   split at h
   ·rename_i hn
    rw [a8R qs _ r h,Z4 (by omega)]
   ·cases h
variable (hc:Core B w0 I0 w I ι σ D) (hn:¬ D nm) (hev:∀ o r,i7 o r=true→e8 w I ι σ D (ρ o) (ev r))
include hc hn
theorem c2S (hev:∀ o r,i7 o r=true→e8 w I ι σ D (ρ o) (ev r)) {t el es n:Nat} {zeros:List AV} {parts:Array (Nat × Operand)} {parts':List (Nat × RA)} (ht:P.underlying t=some (.slice el)) (hs:n7 P el es=true)
 (hz:Z0 P el zeros=true) (hl:zeros.length=es) (hmax:n*es≤2 ^ 24)
 (hp:a0M P (fun i=>some (i*es,es)) parts.toList (parts'.map fun (i,x)=>(i*es,es,x))=true) (h:step σ nm ev (.G6 es n zeros parts')=some e):
 Good P B w0 I0 w I ι σ D nm e (do pure (.value (← Instr.buildSlice t n (parts.map fun (i,x)=>(i,ρ x))))):=by
 simp only [step] at h
 split at h
 ·rename_i cs hcs
  split at h
  case isFalse=>cases h
  rename_i hall
  cases h
  obtain ⟨z,hzr,hzc⟩:=a5e hz w
  obtain ⟨e1,e2⟩:=a4o (P:=P) hev _ _ hp
  have hmm:((parts'.map fun (i,x)=>(i*es,es,x)).map fun (o,n,x)=>(o,n,ev x))=parts'.map fun (i,x)=>(i*es,es,ev x):=by simp [List.map_map,Function.comp_def]
  rw [hmm] at e1 e2
  have hz0:K6 w I ι σ D ((Array.range (n*es)).map ((if n*es=0 then #[] else z.cells)[·% (if n*es=0 then #[] else z.cells).size]!)) (List.replicate n zeros).flatten:=
   b0w (fun hne=>by rw [if_neg hne];exact a1Y hzc) hl
  obtain ⟨c',hf,hrep⟩:=b2A (place:=fun i=>some (i*es,es)) _ _ _ _ cs e1 e2 hz0 hcs
  have hcl:cs.length=n*es:=by rw [a8R _ _ _ hcs];simp [hl]
  obtain ⟨m1,m2,m3,m4,m5⟩:=b2a (b8r hrep hall hcl)
  have hlist:(parts.map fun (i,x)=>(i,ρ x)).toList=parts.toList.map fun p=>(p.1,ρ p.2):=by simp
  refine a4R (w':=w.alloc (.cells c' el)) (v:=.slice (some ⟨w.heap.size,0,none⟩) n n) (c:=c') (T:=el) (fz:=(0,0)) hc hn ?_ rfl (a1X hc _) (.inr (Nat.le_refl _)) m3 ?_ (by rw [m1];exact m5) rfl ?_
  ·unfold Instr.buildSlice
   simp only [Sem.run_bind,i5 ht,Result.andThen_ok,x8 hs,Sem.run_ite,if_neg (show ¬ n*es>2 ^ 24 by omega)]
   by_cases h0:n*es=0
   ·simp only [if_pos h0] at hf ⊢
    simp only [Sem.run_pure,Result.andThen_ok,hlist,hf]
    simp [newRow]
   ·simp only [if_neg h0] at hf ⊢
    simp only [hzr,Sem.run_pure,Result.andThen_ok,hlist,hf]
    simp [newRow]
  ·rw [m1,m2,a3O,hrep.1,hcl];exact Nat.le_refl _
  ·refine a3v (c:=c') (T:=el) (fz:=(0,0)) (.inr rfl) (by simp [l5]) (by show (w.heap.push _)[w.heap.size]?=_;simp) (by rw [m2,a3O]) (Nat.le_refl _) (by rw [m1,hrep.1,hcl];exact Nat.le_refl _)
 ·cases h
theorem b9l {t:TypeId} (h:step σ nm ev .b0I=some e):
 Good P B w0 I0 w I ι σ D nm e (do pure (.value (← Instr.makeMap t none))):=by
 simp only [step] at h;cases h
 have hBw:B≤w.heap.size:=Nat.le_trans hc.hB hc.below.size
 obtain ⟨hs,hL⟩:=hc.u6.c4J (w':=w.alloc (.map #[] 0)) hBw hn rfl
 refine ⟨_,.map (some w.heap.size),w.alloc (.map #[] 0),by simp [Instr.makeMap],.inl rfl,I,l5 ι nm (some w.heap.size),a2l D nm,⟨hs,a1X hc _,hc.hB,hc.ext,hc.old⟩,hL,?_,?_⟩
 ·refine .a0u (.inr rfl) rfl fun o' ho'=>⟨w.heap.size,by simp [l5],rfl⟩
 ·rintro b (h | rfl)
  ·exact .inl h
  ·exact .inr ⟨Nat.le_refl _,by simp [g9]⟩
theorem c1g (hev:∀ o r,i7 o r=true→e8 w I ι σ D (ρ o) (ev r)) {t el es bytes:Nat} {zero:List PV} {x y:Operand} {x':RA} {ie:TypeInfo} (ht:P.underlying t=some (.slice el)) (hi:P.info? el=some ie) (hie:ie.size=es) (hby:ie.bytes=bytes)
 (hz:Z0 P el (zero.map .pv)=true) (hall:v5 (zero.map .pv)=true) (h1:i7 x x'=true) (h2:i7 y x'=true) (h:step σ nm ev (.b3a es bytes zero x')=some e):
 Good P B w0 I0 w I ι σ D nm e (do pure (.value (← Instr.makeSlice t (ρ x) (ρ y)))):=by
 simp only [step] at h
 split at h
 ·rename_i k hk
  split at h
  ·rename_i hle
   cases h
   obtain ⟨kx,ex⟩:=a6X hev h1 hk
   obtain ⟨ky,ey⟩:=a6X hev h2 hk
   obtain ⟨z,hzr,hzc⟩:=a5e hz w
   have hs:n7 P el es=true:=by simp [n7,hi,hie]
   obtain ⟨n,rfl⟩:=Int.eq_ofNat_of_zero_le hle.1
   simp only [Int.toNat_natCast] at hle ⊢
   have hz0:=b0w (w:=w) (I:=I) (ι:=ι) (σ:=σ) (D:=D) (zero:=if n*es=0 then #[] else z.cells) (zeros:=zero.map .pv) (n:=n) (es:=es) (fun hne=>by rw [if_neg hne];exact a1Y hzc) (by simp [hle.2.2.1])
   have hc0:=hz0.1
   refine a4R (w':=w.alloc (.cells ((Array.range (n*es)).map ((if n*es=0 then #[] else z.cells)[·% (if n*es=0 then #[] else z.cells).size]!)) el)) (v:=.slice (some ⟨w.heap.size,0,none⟩) n n) (T:=el) (fz:=(0,0)) hc hn ?_ rfl (a1X hc _) (.inr (Nat.le_refl _)) rfl ?_ ?_ rfl ?_
   ·have hn40:(n:Int)≤2 ^ 40:=Int.le_trans (by
     have:=Nat.mul_le_mul_left n hle.2.2.2
     rw [Nat.succ_eq_add_one,Nat.zero_add,Nat.mul_one] at this
     exact_mod_cast this) hle.2.1
    have hwrap:IntKind.i64.wrap (n:Int)=n:=IntWalk.i64_in _ (by omega)
    have hbig:¬ ((bytes:Int)*n>2 ^ 48):=by
     have:=hle.2.1
     rw [Int.mul_comm] at this
     omega
    rw [ex,ey]
    unfold Instr.makeSlice
    simp only [Sem.run_bind,i5 ht,Result.andThen_ok,asInt,asIntOf,Sem.run_pure,typeInfo,run_program,hi,hby,hwrap,Sem.run_ite]
    rw [if_neg (by simp;omega)]
    simp only [run_askRoom,Result.andThen_ok,x8 hs,Int.toNat_natCast]
    by_cases h0:n*es=0
    ·simp [h0,newRow]
    ·simp [h0,hzr,newRow]
   ·simp only [d9.len,d9.es,List.length_replicate]
    rw [hc0];simp [hle.2.2.1]
   ·intro i row hr
    simp only [d9.row?,d9.es] at hr ⊢
    split at hr
    ·rename_i p hp
     cases hr
     have hi':i<n:=by have:=(List.getElem?_eq_some_iff.1 hp).1;simpa using this
     rw [List.getElem?_replicate_of_lt hi'] at hp;cases hp
     refine ⟨by simp [hle.2.2.1],fun j v hv=>?_⟩
     have hj:j<es:=by have:=(List.getElem?_eq_some_iff.1 hv).1;simpa [hle.2.2.1] using this
     have hb:i*es+es≤n*es:=by
      calc i*es+es=(i+1)*es:=by rw [Nat.add_mul,Nat.one_mul]
       _≤n*es:=Nat.mul_le_mul_right _ hi'
     have hlt:i*es+j<((Array.range (n*es)).map ((if n*es=0 then #[] else z.cells)[·% (if n*es=0 then #[] else z.cells).size]!)).size:=by simp;omega
     have hrp:=hz0.2 (i*es+j) _ v (Array.getElem?_eq_getElem hlt) (by
      rw [flat_get _ n _ (by simp [hle.2.2.1];omega)]
      simp only [List.length_map,hle.2.2.1]
      rw [Nat.mul_comm i es,Nat.mul_add_mod,Nat.mod_eq_of_lt hj]
      exact hv)
     exact ⟨_,Array.getElem?_eq_getElem hlt,hrp.a7f (a1G hall v (List.mem_of_getElem? hv)),hrp⟩
    ·cases hr
   ·refine a3v (T:=el) (fz:=(0,0)) (.inr rfl) (by simp [l5]) (by show (w.heap.push _)[w.heap.size]?=_;rw [Array.getElem?_push_size]) (by simp [d9.len]) (Nat.le_refl _) (by simp [d9.es])
  ·cases h
 ·cases h
end
end Go.Ab
namespace Go.Ab
open Go.RowKit
section
variable {P:Program} {B:Nat} {w0:World} {I0:v9} {w w':World} {I:v9} {ι:Nat→Option Nat} {σ:b7} {D:Nat→Prop} {nm:Nat} {ρ:Operand→Value} {ev:RA→AV} {e:l7}
def Put (c c':Array Value) (o:Nat) (vs:List Value):Prop:=
 c'.size=c.size∧∀ k,c'[k]?=if o≤k∧k<o+vs.length then vs[k - o]? else c[k]?
theorem G9 (g o:Nat):∀ (vs:List Value) (i:Nat) (c:Array Value) (T:TypeId) (fz:Nat × Nat) (w:World),w.heap[g]?=some (Obj.cells c T fz)→Fz c fz→o+i+vs.length≤c.size→(∀ v ∈ vs,v.oneCell'=true)→
 B≤g→Below B w0 w→
 ∃ w' c',(storeCells ⟨g,o,none⟩ vs i).run P w= .ok () w'∧w'.heap[g]?=some (Obj.cells c' T fz)∧Put c c' (o+i) vs∧(∀ k,k≠g→w'.heap[k]?=w.heap[k]?)∧w'.heap.size=w.heap.size∧Below B w0 w'
 | [],i,c,T,fz,w,hg,hf,hl,hv,hB,hb=>⟨w,c,rfl,hg,⟨rfl,fun k=>by rw [if_neg (by simp only [List.length_nil];omega)]⟩,fun _ _=>rfl,rfl,hb⟩
 | v::vs,i,c,T,fz,w,hg,hf,hl,hv,hB,hb=>by
   simp only [List.length_cons] at hl
   have hlt:o+i<c.size:=by omega
   have hcell:w.cell? ⟨g,o+i,none⟩=some c[o+i]:=by rw [cell_of hg];exact Array.getElem?_eq_getElem hlt
   have hfr:w.frozen? ⟨g,o+i,none⟩=false:=by
    unfold World.frozen? Fz at*
    simp only [hg]
    simp;omega
   have hst:(store ((⟨g,o,none⟩:Addr).add i) v).run P w= .ok () (w.setCell ⟨g,o+i,none⟩ v):=by
    rw [a0w,run_store _ _ _ _ _ (hv v (by simp))]
    simp [hcell,hfr]
   have hg':(w.setCell ⟨g,o+i,none⟩ v).heap[g]?=some (Obj.cells (c.setIfInBounds (o+i) v) T fz):=by
    simp only [World.setCell,Array.getElem?_modify,if_true,hg]
    simp
   have ho':∀ k,k≠g→(w.setCell ⟨g,o+i,none⟩ v).heap[k]?=w.heap[k]?:=fun k hk=>Below.heap_setCell w _ v k hk
   obtain ⟨w',c',h1,h2,h3,h4,h5,h6⟩:=G9 g o vs (i+1) (c.setIfInBounds (o+i) v) T fz (w.setCell ⟨g,o+i,none⟩ v) hg' (by unfold Fz at*;simpa using hf) (by simp;omega) (fun x hx=>hv x (by simp [hx])) hB
    (hb.setCell (p:=⟨g,o+i,none⟩) hB v)
   refine ⟨w',c',?_,h2,⟨by rw [h3.1];simp,fun k=>?_⟩,fun k hk=>(h4 k hk).trans (ho' k hk),h5.trans (World.size_setCell _ _ _),h6⟩
   ·simp only [storeCells,Sem.run_bind,hst,Result.andThen_ok];exact h1
   ·rw [h3.2]
    simp only [List.length_cons]
    by_cases hk:k=o+i
    ·subst hk
     rw [if_neg (by omega),if_pos ⟨by omega,by omega⟩]
     simp [hlt]
    ·by_cases hin:o+(i+1)≤k∧k<o+(i+1)+vs.length
     ·rw [if_pos hin,if_pos (by omega)]
      have:k - (o+i)=(k - (o+(i+1)))+1:=by omega
      rw [this,List.getElem?_cons_succ]
     ·rw [if_neg hin,if_neg (by omega)]
      rw [Array.getElem?_setIfInBounds_ne (by omega)]
theorem b6O {i i' es j j' n:Nat} (hne:i'≠i) (hj':j'<es) (hjn:j+n≤es):¬ (i*es+j≤i'*es+j'∧i'*es+j'<i*es+j+n):=by
 rintro ⟨h1,h2⟩
 rcases Nat.lt_or_gt_of_ne hne with h | h
 ·have:(i'+1)*es≤i*es:=Nat.mul_le_mul_right _ h
  rw [Nat.add_mul,Nat.one_mul] at this;omega
 ·have:(i+1)*es≤i'*es:=Nat.mul_le_mul_right _ h
  rw [Nat.add_mul,Nat.one_mul] at this;omega
theorem b9w {b i j n:Nat} {o o':d9} {row:List AV} {v:Value} {ac:List AV} {t:TypeId} (hc:Core B w0 I0 w I ι σ D) (hf:find σ b=some o) (hrow:o.row? i=some row) (hs:o.O3=false)
 (hsz:n7 P t n=true) (hcr:K6 w I ι σ D v.cells ac) (hone:∀ x ∈ v.cells.toList,x.oneCell'=true) (hl:ac.length=n) (hjn:j+n≤row.length)
 (he:o'.es=o.es) (hlen:o'.len=o.len) (hm:o'.L0=false)
 (hrows:∀ i' r',o'.row? i'=some r'→r'=(if i'=i then F3 row j ac else (o.row? i').getD [])∧(i'≠i→(o.row? i').isSome=true)):
 ∃ r w',ι b=some r∧(storeVar t ⟨r,i*o.es+j,none⟩ v).run P w= .ok () w'∧Core B w0 I0 w' I ι (Q7 σ b (some o')) D∧q0 w I ι σ D w' I ι (Q7 σ b (some o')) D:=by
 obtain ⟨r,c,T,fz,k1,k2,k3,k4,k5,k6⟩:=P7 hc.u6 hf hrow
 obtain ⟨s1,s2⟩:=hcr
 have hi:i<o.len:=by
  cases o with
  | map ents=>simp [d9.row?] at hrow
  | arr e rs s=>
    simp only [d9.row?] at hrow
    split at hrow
    ·rename_i p hp;exact (List.getElem?_eq_some_iff.1 hp).1
    ·cases hrow
  | box e rs s=>exact (List.getElem?_eq_some_iff.1 hrow).1
 have hbound:i*o.es+j+v.cells.toList.length≤c.size:=by
  have h1:(i+1)*o.es≤o.len*o.es:=Nat.mul_le_mul_right _ hi
  rw [Nat.add_mul,Nat.one_mul] at h1
  have:v.cells.toList.length=n:=by simp;omega
  omega
 have hgB:B≤r:=hc.u6.ge b o r hf k1
 obtain ⟨w',c',h1,h2,h3,h4,h5,h6⟩:=G9 (P:=P) r (i*o.es+j) v.cells.toList 0 c T fz w k2 k3 (by simpa using hbound) hone hgB hc.below
 simp only [Nat.add_zero] at h3
 have hvl:v.cells.toList.length=ac.length:=by simpa using s1
 obtain ⟨hS,hL⟩:=hc.u6.write (o':=o') (c':=c') hf k1 hs hm he hlen k3 k4 k2 h2 h3.1 h5 h4 (fun i' row' hr'=>by
  obtain ⟨e1,e2⟩:=hrows i' row' hr'
  by_cases hii:i'=i
  ·subst hii
   rw [if_pos rfl] at e1;subst e1
   refine ⟨by rw [Z4 (by omega),k5,he],fun j' q hq=>?_⟩
   have hj':j'<row.length:=by have:=(List.getElem?_eq_some_iff.1 hq).1;rwa [Z4 (by omega)] at this
   rw [a9A (by omega)] at hq
   rw [he,h3.2]
   by_cases hin:j≤j'∧j'<j+ac.length
   ·rw [if_pos hin] at hq
    rw [if_pos ⟨by omega,by omega⟩]
    have hk':j' - j<v.cells.size:=by have:v.cells.toList.length=v.cells.size:=by simp
                                     omega
    have ee:i'*o.es+j' - (i'*o.es+j)=j' - j:=by omega
    rw [ee]
    refine ⟨v.cells[j' - j],by simp [hk'],hone _ (by simp),s2 (j' - j) _ q (Array.getElem?_eq_getElem hk') hq⟩
   ·rw [if_neg hin] at hq
    rw [if_neg (by omega)]
    exact k6 j' q hq
  ·rw [if_neg hii] at e1
   obtain ⟨r0,hr0⟩:=Option.isSome_iff_exists.1 (e2 hii)
   rw [hr0] at e1;simp at e1;subst e1
   obtain ⟨r2,c2,T2,fz2,q1,q2,q3,q4,q5,q6⟩:=P7 hc.u6 hf hr0
   rw [k1] at q1;cases q1;rw [k2] at q2;cases q2
   refine ⟨by rw [q5,he],fun j' q hq=>?_⟩
   have hj':j'<o.es:=by have:=(List.getElem?_eq_some_iff.1 hq).1;omega
   rw [he,h3.2,if_neg (by rw [hvl,hl];exact b6O hii hj' (by omega))]
   exact q6 j' q hq)
 refine ⟨r,w',k1,?_,⟨hS,h6,hc.hB,hc.ext,hc.old⟩,hL⟩
 unfold storeVar
 simp only [Sem.run_bind,x8 hsz,Result.andThen_ok]
 rw [if_neg (by have:v.cells.toList.length=v.cells.size:=by simp
                simp;omega)]
 simpa using h1
variable (hc:Core B w0 I0 w I ι σ D) (hev:∀ o r,i7 o r=true→e8 w I ι σ D (ρ o) (ev r))
include hc hev
theorem b9o {t n:Nat} {x y:Operand} {x' y':RA} (hs:n7 P t n=true) (hn0:n≠0) (h1:i7 x x'=true) (h2:i7 y y'=true) (h:step σ nm ev (.store n x' y')=some e):
 Good P B w0 I0 w I ι σ D nm e (do Instr.storeAt t (ρ x) (ρ y);pure .skip):=by
 simp only [step] at h
 have hx:=hev _ _ h1
 have fin:∀ (b i j:Nat) (o o':d9) (row ac:List AV),ev x'= .ptr b i j→find σ b=some o→o.row? i=some row→o.O3=false→K6 w I ι σ D (ρ y).cells ac→(∀ z ∈ (ρ y).cells.toList,z.oneCell'=true)→ac.length=n→j+n≤row.length→
  o'.es=o.es→o'.len=o.len→o'.L0=false→
  (∀ i' r',o'.row? i'=some r'→r'=(if i'=i then F3 row j ac else (o.row? i').getD [])∧(i'≠i→(o.row? i').isSome=true))→e={v:=.undef,rd:=[b],up:=[(b,some o')]}→
  Good P B w0 I0 w I ι σ D nm e (do Instr.storeAt t (ρ x) (ρ y);pure .skip):=by
  intro b i j o o' row ac hb ho hrow hse hcr hone hl hjn he hlen hm hrows heq
  obtain ⟨r,w',hr,hrun,hC,hL⟩:=b9w (P:=P) (t:=t) (o':=o') hc ho hrow hse hs hcr hone hl hjn he hlen hm hrows
  rw [hb] at hx
  subst heq
  generalize ρ x=X at hx
  cases hx with
  | ptr hD hone hx=>
    obtain ⟨r',hr',rfl⟩:=hx o ho
    rw [hr] at hr';cases hr'
    exact ⟨.skip,undef,w',by simp [Instr.storeAt,Instr.sureAddr,hrun],.inr ⟨rfl,rfl⟩,I,ι,D,hC,hL,.undef _,fun _ h=>.inl h⟩
 split at h
 ·rename_i b i j hb
  split at h
  ·rename_i es rows ho
   split at h
   ·rename_i row hrow
    split at h
    ·rename_i hle
     cases h
     obtain ⟨hcr,hone⟩:=a0o (hev _ _ h2) hle.1 hn0 hle.2.2
     refine fin b i j _ (.box es (rows.set i (F3 row j (ev y').cells)) false) row _ hb ho hrow rfl hcr hone hle.1 hle.2.1 rfl (by simp [d9.len]) rfl (fun i' r' hr'=>?_) rfl
     simp only [d9.row?,List.getElem?_set] at hr' ⊢
     by_cases hii:i=i'
     ·subst hii
      have:i<rows.length:=(List.getElem?_eq_some_iff.1 hrow).1
      rw [if_pos rfl,if_pos this] at hr';cases hr'
      exact ⟨by simp,fun hn=>absurd rfl hn⟩
     ·rw [if_neg hii] at hr'
      rw [if_neg (fun e=>hii e.symm),hr']
      exact ⟨rfl,fun _=>rfl⟩
    ·cases h
   ·cases h
  ·rename_i es rows ho
   split at h
   ·rename_i row hrow
    have hrow':(d9.arr es rows false).row? i=some (row.map .pv):=by simp [d9.row?,hrow]
    split at h
    ·rename_i ps hps
     split at h
     ·rename_i hle
      cases h
      obtain ⟨hcr,hone⟩:=a0o (hev _ _ h2) hle.1 hn0 hle.2.2
      obtain ⟨p1,p2⟩:=a1F (w:=w) (I:=I) (ι:=ι) (σ:=σ) (D:=D) _ _ hps
      have hcr':K6 w I ι σ D (ρ y).cells (ps.map .pv):=by
       refine ⟨by rw [hcr.1,p1];simp,fun k z q hz hq=>?_⟩
       simp only [List.getElem?_map,Option.map_eq_some_iff] at hq
       obtain ⟨p,hp,rfl⟩:=hq
       have hk:k<(ev y').cells.length:=by rw [p1];exact (List.getElem?_eq_some_iff.1 hp).1
       exact .pv (p2 k z _ p (List.getElem?_eq_getElem hk) hp (hcr.2 k z _ hz (List.getElem?_eq_getElem hk)))
      refine fin b i j _ (.arr es (rows.set i (row.take j++ps++row.drop (j+ps.length))) false) (row.map .pv) _ hb ho hrow' rfl hcr' hone (by simp;omega) (by simpa using hle.2.1) rfl (by simp [d9.len]) rfl (fun i' r' hr'=>?_) rfl
      simp only [d9.row?,List.getElem?_set] at hr' ⊢
      by_cases hii:i=i'
      ·subst hii
       have:i<rows.length:=(List.getElem?_eq_some_iff.1 hrow).1
       rw [if_pos rfl,if_pos this] at hr';cases hr'
       exact ⟨by simp [F3],fun hn=>absurd rfl hn⟩
      ·rw [if_neg hii] at hr'
       rw [if_neg (fun e=>hii e.symm),hr']
       exact ⟨rfl,fun _=>rfl⟩
     ·cases h
    ·split at h
     ·rename_i hle
      cases h
      obtain ⟨hcr,hone⟩:=a0o (hev _ _ h2) hle.1 hn0 hle.2.2
      refine fin b i j _ (.box es ((rows.map (·.map AV.pv)).set i (F3 (row.map .pv) j (ev y').cells)) false) (row.map .pv) _ hb ho hrow' rfl hcr hone hle.1 (by simpa using hle.2.1) rfl (by simp [d9.len]) rfl (fun i' r' hr'=>?_) rfl
      simp only [d9.row?,List.getElem?_set,List.length_map,List.getElem?_map] at hr' ⊢
      by_cases hii:i=i'
      ·subst hii
       have:i<rows.length:=(List.getElem?_eq_some_iff.1 hrow).1
       rw [if_pos rfl,if_pos this] at hr';cases hr'
       exact ⟨by simp,fun hn=>absurd rfl hn⟩
      ·rw [if_neg hii] at hr'
       rw [if_neg (fun e=>hii e.symm)]
       cases hri:rows[i']? with
       | none=>rw [hri] at hr';simp at hr'
       | some p=>rw [hri] at hr';simp at hr';subst hr';exact ⟨rfl,fun _=>rfl⟩
     ·cases h
   ·cases h
  ·cases h
 ·cases h
end
end Go.Ab
namespace Go.Ab
open Go.RowKit
section
variable {P:Program} {B:Nat} {w0:World} {I0:v9} {w w':World} {I:v9} {ι:Nat→Option Nat} {σ:b7} {D:Nat→Prop} {nm:Nat} {ρ:Operand→Value} {ev:RA→AV} {e:l7}
def a1U (w:World) (I:v9) (ι:Nat→Option Nat) (σ:b7) (D:Nat→Prop) (es:Nat) (v:Value) (xs:List (List AV)):Prop:=
 ∃ p cap,v= .slice p xs.length cap∧xs.length≤cap∧(∀ (i:Nat) (row:List AV),xs[i]?=some row→row.length=es)∧
   (xs≠[]→∃ a:Addr,p=some a∧a.spot=none∧∀ (i j:Nat) (row:List AV) (q:AV),xs[i]?=some row→row[j]?=some q→∃ x,w.cell? ⟨a.block,a.off+(i*es+j),none⟩=some x∧a6k w I ι σ D x q)
theorem a8o {v:Value} {es:Nat} {rows:List (List PV)} (h:z5 w I v (.sl es rows)):a1U w I ι σ D es v (rows.map (·.map .pv)):=by
 cases h with
 | sl f hl hcap hw hp hr=>
   refine ⟨_,_,by rw [List.length_map,hl],by rw [List.length_map,hl];exact hcap,fun i row hrow=>?_,fun hne=>?_⟩
   ·simp only [List.getElem?_map,Option.map_eq_some_iff] at hrow
    obtain ⟨r,hr',rfl⟩:=hrow
    simpa using hw i r hr'
   ·obtain ⟨a,rfl,hs,hcell⟩:=hp (by intro e;subst e;exact hne rfl)
    refine ⟨a,rfl,hs,fun i j row q hrow hq=>?_⟩
    simp only [List.getElem?_map,Option.map_eq_some_iff] at hrow
    obtain ⟨r,hr',rfl⟩:=hrow
    simp only [List.getElem?_map,Option.map_eq_some_iff] at hq
    obtain ⟨q',hq',rfl⟩:=hq
    have hi:=(List.getElem?_eq_some_iff.1 hr').1
    have hj:=(List.getElem?_eq_some_iff.1 hq').1
    rw [hw i r hr'] at hj
    obtain ⟨h1,h2,h3⟩:=hcell i j hi hj
    exact ⟨f i j,h1,h3,.pv (hr i j r q' hr' hq')⟩
theorem a7h {b i n:Nat} {o:d9} {v:Value} (hs:z6 B w I ι σ D) (hf:find σ b=some o) (_hm:o.L0=false) (hv:b6n w ι o b i n v) {xs:List (List AV)} (hlen:xs.length=n)
 (hx:∀ k,k<n→xs[k]?=o.row? (i+k)):a1U w I ι σ D o.es v xs:=by
 obtain ⟨p,cap,rfl,hin,hcap,hcase⟩:=hv
 have hrow:∀ k row,xs[k]?=some row→o.row? (i+k)=some row:=fun k row h=>by rw [← hx k (by have:=(List.getElem?_eq_some_iff.1 h).1;omega)];exact h
 refine ⟨p,cap,by rw [hlen],by omega,fun k row h=>?_,fun hne=>?_⟩
 ·obtain ⟨r,c,T,fz,k1,k2,k3,k4,k5,k6⟩:=P7 hs hf (hrow k row h)
  exact k5
 ·have hpos:0<n:=by rw [← hlen];exact List.length_pos_iff.2 hne
  rcases hcase with ⟨h0,_⟩ | ⟨r,c,T,fz,hr,rfl,hheap,hsz⟩
  ·omega
  ·refine ⟨_,rfl,rfl,fun k j row q h hq=>?_⟩
   obtain ⟨r',c',T',fz',k1,k2,k3,k4,k5,k6⟩:=P7 hs hf (hrow k row h)
   rw [hr] at k1;cases k1
   obtain ⟨x,hx',hrep⟩:=k6 j q hq
   refine ⟨x,?_,hrep⟩
   rw [cell_of k2]
   rw [← hx'];congr 1
   show i*o.es+(k*o.es+j)=(i+k)*o.es+j
   rw [Nat.add_mul];omega
theorem a3Z {es:Nat} {v:Value} {a:AV} {xs:List (List AV)} {rd:List Nat} (hs:z6 B w I ι σ D) (h:rowsOf σ es a=some (xs,rd)) (hv:e8 w I ι σ D v a):a1U w I ι σ D es v xs:=by
 unfold rowsOf at h
 have hv:=hv.e
 generalize a.e=a at h hv
 split at h
 ·cases h
  cases hv with
  | emp=>exact ⟨none,0,rfl,Nat.le_refl _,fun i row hr=>by simp at hr,fun hn=>absurd rfl hn⟩
 ·split at h
  ·rename_i he;subst he;cases h;cases hv with | fsl hv=>exact a8o hv
  ·cases h
 ·split at h
  ·rename_i he;subst he;cases h;cases hv with | pv hv=>exact a8o hv
  ·cases h
 ·rename_i b i n
  cases hv with
  | own hD hone hv=>
    split at h
    ·rename_i e' rows sl hf
     split at h
     ·rename_i he;subst he;cases h
      obtain ⟨p,cap,hvv,hin,_⟩:=hv _ hf
      simp only [d9.len] at hin
      refine a7h hs hf rfl (hv _ hf) (by simp;omega) fun k hk=>?_
      simp only [d9.row?,List.getElem?_map,List.getElem?_take_of_lt hk,List.getElem?_drop]
      cases rows[i+k]? <;>rfl
     ·cases h
    ·rename_i e' rows sl hf
     split at h
     ·rename_i he;subst he;cases h
      obtain ⟨p,cap,hvv,hin,_⟩:=hv _ hf
      simp only [d9.len] at hin
      refine a7h hs hf rfl (hv _ hf) (by simp;omega) fun k hk=>?_
      simp only [d9.row?,List.getElem?_take_of_lt hk,List.getElem?_drop]
     ·cases h
    ·cases h
 ·cases h
theorem a1a {es:Nat} {v:Value} {a:AV} {xs:List (List PV)} {rd:List Nat} (hs:z6 B w I ι σ D) (h:l4 σ es a=some (xs,rd)) (hv:e8 w I ι σ D v a):a1U w I ι σ D es v (xs.map (·.map .pv)):=by
 have:rowsOf σ es a=some (xs.map (·.map .pv),rd):=by
  unfold l4 at h
  unfold rowsOf
  generalize a.e=a at h ⊢
  split at h
  ·cases h;rfl
  ·split at h
   ·rename_i he;cases h;simp [he]
   ·cases h
  ·split at h
   ·rename_i he;cases h;simp [he]
   ·cases h
  ·split at h
   ·rename_i hf
    split at h
    ·rename_i he;cases h;simp [hf,he]
    ·cases h
   ·cases h
  ·cases h
 exact a3Z hs this hv
theorem u5 {es:Nat} {v:Value} {xs:List (List AV)} (h:a1U w I ι σ D es v xs):
 ∃ cs,(Builtin.firstCells es xs.length v).run P w= .ok cs w∧cs.size=xs.length*es∧
   ∀ (i j:Nat) (row:List AV) (q:AV),xs[i]?=some row→row[j]?=some q→∃ x,cs[i*es+j]?=some x∧a6k w I ι σ D x q:=by
 obtain ⟨p,cap,rfl,hcap,hw,hp⟩:=h
 by_cases hne:xs=[]
 ·subst hne
  refine ⟨#[],?_,by simp,fun i j row q hr=>by simp at hr⟩
  cases p <;>simp [Builtin.firstCells,loadCells,loadCellsFrom]
 ·obtain ⟨a,rfl,hs,hcell⟩:=hp hne
  let f:Nat→Value:=fun k=>(w.cell? ⟨a.block,a.off+k,none⟩).getD undef
  have hf:∀ k,k<xs.length*es→w.cell? (a.add k)=some (f k):=by
   intro k hk
   have hes:0<es:=by rcases Nat.eq_zero_or_pos es with h0 | h0;(rw [h0] at hk;simp at hk);exact h0
   have hi:k / es<xs.length:=Nat.div_lt_of_lt_mul (by rw [Nat.mul_comm];exact hk)
   have hrow:=List.getElem?_eq_getElem hi
   have hj:k % es<(xs[k / es]).length:=by rw [hw _ _ hrow];exact Nat.mod_lt _ hes
   obtain ⟨x,hx,_⟩:=hcell _ _ _ _ hrow (List.getElem?_eq_getElem hj)
   rw [Nat.mul_comm,Nat.div_add_mod] at hx
   rw [a2U hs]
   simp [f,hx]
  refine ⟨((List.range (xs.length*es)).map f).toArray,?_,by simp,fun i j row q hr hq=>?_⟩
  ·simp only [Builtin.firstCells]
   exact run_loadCells (w:=w) a _ f hf
  ·obtain ⟨x,hx,hrep⟩:=hcell i j row q hr hq
   refine ⟨x,?_,hrep⟩
   have hi:=(List.getElem?_eq_some_iff.1 hr).1
   have hj:j<es:=by rw [← hw i row hr];exact (List.getElem?_eq_some_iff.1 hq).1
   have hlt:i*es+j<xs.length*es:=by
    calc i*es+j<i*es+es:=by omega
     _=(i+1)*es:=by rw [Nat.add_mul,Nat.one_mul]
     _≤xs.length*es:=Nat.mul_le_mul_right _ hi
   simp [hlt,f,hx]
theorem b3z (newLen:Nat):∀ (r c:Nat),Builtin.growBy newLen r c≤max c (newLen+(newLen+768) / 4)
 | 0,c=>by simp [Builtin.growBy];omega
 | r+1,c=>by
   simp only [Builtin.growBy]
   split
   ·omega
   ·have:=b3z newLen r (c+(c+768) / 4)
    omega
theorem nextslicecap_le {n c:Nat} (h:c<n):Builtin.nextslicecap n c≤2*n+192:=by
 unfold Builtin.nextslicecap
 split
 ·omega
 ·split
  ·omega
  ·have:=b3z n 4 c
   omega
structure b4Y (P:Program) (sT xT el es bytes:Nat):Prop where
 hs:P.underlying sT=some (.slice el)
 hx:∃ el',P.underlying xT=some (.slice el')
 info:∃ i z,P.info? el=some i∧i.size=es∧i.bytes=bytes∧i.zero=some z∧z.cells.size=es
 pos:0<bytes
theorem Y4 {sT xT el es bytes ty:Nat} (ht:b4Y P sT xT el es bytes) {p:Option Addr} {n cap:Nat} {vx:Value} {xs:List (List AV)} (hx:a1U w I ι σ D es vx xs) (hroom:n+xs.length≤cap) {cs:Array Value}
 (hfc:(Builtin.firstCells es xs.length vx).run P w= .ok cs w) {w':World} (hst:(match p with | some a=>storeCells (a.add (n*es)) cs.toList | none=>pure ()).run P w= .ok () w'):
 (Builtin.append_ #[sT,xT] ty #[.slice p n cap,vx]).run P w= .ok (.slice p (n+xs.length) cap) w':=by
 obtain ⟨i,z,hi,h1,h2,h3,h4⟩:=ht.info
 obtain ⟨el',hx'⟩:=ht.hx
 obtain ⟨px,capx,rfl,_⟩:=hx
 have hs:n7 P el es=true:=by simp [n7,hi,h1]
 unfold Builtin.append_
 simp only [List.getElem?_toArray,List.getElem?_cons_zero,List.getElem?_cons_succ,Sem.run_bind,i5 ht.hs,Result.andThen_ok,x8 hs,i5 hx',Sem.run_pure,Bool.false_eq_true,if_false,Builtin.lenOf,Bool.not_false,if_true,hroom,hfc]
 cases p with
 | none=>simp at hst;subst hst;simp
 | some a=>simp only at hst;simp [hst]
theorem run_append_grow {sT xT el es bytes ty:Nat} (ht:b4Y P sT xT el es bytes) {p:Option Addr} {n cap:Nat} {vx:Value} {xs:List (List AV)} (hx:a1U w I ι σ D es vx xs) (hroom:¬ n+xs.length≤cap) (hbig:(n+xs.length)*bytes≤2 ^ 40) {cs os:Array Value}
 (hfc:(Builtin.firstCells es xs.length vx).run P {w with drawn:=w.drawn+1}= .ok cs {w with drawn:=w.drawn+1}) (hfo:(Builtin.firstCells es n (.slice p n cap)).run P {w with drawn:=w.drawn+1}= .ok os {w with drawn:=w.drawn+1}):
 ∃ (newCap:Nat) (rest:Array Value) (w':World),n+xs.length≤newCap∧rest.size=(newCap - (n+xs.length))*es∧(Builtin.append_ #[sT,xT] ty #[.slice p n cap,vx]).run P w= .ok (.slice (some ⟨w.heap.size,0,none⟩) (n+xs.length) newCap) w'∧
   w'.heap=w.heap.push (Obj.cells (os++cs++rest) el (0,0))∧(∀ B w0,B≤w.heap.size→Below B w0 w→Below B w0 w'):=by
 obtain ⟨i,z,hi,h1,h2,h3,h4⟩:=ht.info
 obtain ⟨el',hx'⟩:=ht.hx
 have hpos:=ht.pos
 obtain ⟨px,capx,rfl,_⟩:=hx
 have hs:n7 P el es=true:=by simp [n7,hi,h1]
 have hneed:0<n+xs.length:=by omega
 have hneed2:n+xs.length≤2 ^ 40:=Nat.le_trans (Nat.le_mul_of_pos_right _ hpos) hbig
 have hb2:bytes≤2 ^ 40:=Nat.le_trans (Nat.le_mul_of_pos_left _ hneed) hbig
 have hnext:¬ Builtin.nextslicecap (n+xs.length) cap*bytes>2 ^ 48:=by
  have h5:=nextslicecap_le (n:=n+xs.length) (c:=cap) (by omega)
  have h6:Builtin.nextslicecap (n+xs.length) cap*bytes≤(2*(n+xs.length)+192)*bytes:=Nat.mul_le_mul_right _ h5
  have h7:(2*(n+xs.length)+192)*bytes=2*((n+xs.length)*bytes)+192*bytes:=by rw [Nat.add_mul,Nat.mul_assoc]
  omega
 have hmax:¬ (((n+xs.length:Nat):Int)>IntKind.i64.max∧((false:Bool)=true∨bytes=0)):=by
  rintro ⟨_,h | h⟩
  ·cases h
  ·omega
 let q:Question:=.appendCap (n+xs.length) cap el
 let newCap:=q.cut (w.tape w.drawn q)
 have hq:q.forced=false:=rfl
 have hcapn:n+xs.length≤newCap:=by show n+xs.length≤(n+xs.length)+_;omega
 refine ⟨newCap,Builtin.zeroCells z.cells (newCap - (n+xs.length)),(({w with drawn:=w.drawn+1}:World)).alloc (.cells (os++cs++Builtin.zeroCells z.cells (newCap - (n+xs.length))) el),hcapn,by simp [Builtin.zeroCells,h4],?_,rfl,fun B w0 hB hb=>(Below.drew hb).alloc hB _⟩
 unfold Builtin.append_
 simp only [List.getElem?_toArray,List.getElem?_cons_zero,List.getElem?_cons_succ,Sem.run_bind,i5 ht.hs,Result.andThen_ok,x8 hs,i5 hx',Sem.run_pure,Bool.false_eq_true,if_false,Builtin.lenOf,Bool.not_false,if_true,hroom]
 simp only [typeInfo,Sem.run_bind,run_program,Result.andThen_ok,hi,Sem.run_pure,h2]
 rw [if_neg (by simpa using hmax)]
 simp only [Sem.run_bind,run_program,Result.andThen_ok,hi,Sem.run_pure,h2]
 rw [if_neg hnext]
 have hch:(choose (.appendCap (n+xs.length) cap el)).run P w= .ok newCap {w with drawn:=w.drawn+1}:=by
  rw [run_choose];simp [hq,q,newCap]
 simp only [Sem.run_bind,hch,Result.andThen_ok,run_program,hi,Sem.run_pure,run_askRoom,hfo,hfc]
 have hzv:∀ w₁:World,(zeroValue el).run P w₁= .ok z w₁:=fun w₁=>by simp [zeroValue,typeInfo,hi,h3]
 simp only [hzv,Sem.run_bind,Result.andThen_ok,newRow,run_newObj,Sem.run_pure]
 rfl
theorem a1U.heap {w':World} {es:Nat} {v:Value} {xs:List (List AV)} (h:a1U w I ι σ D es v xs) (hw:w'.heap=w.heap):a1U w' I ι σ D es v xs:=by
 obtain ⟨p,cap,e1,e2,e3,e4⟩:=h
 refine ⟨p,cap,e1,e2,e3,fun hne=>?_⟩
 obtain ⟨a,ea,es',hc⟩:=e4 hne
 refine ⟨a,ea,es',fun i j row q h1 h2=>?_⟩
 obtain ⟨x,hx,hr⟩:=hc i j row q h1 h2
 exact ⟨x,(B3 (by rw [hw])).trans hx,hr.mono (a1D hw)⟩
theorem RowsIn.mono {w':World} {I':v9} {ι':Nat→Option Nat} {σ':b7} {D':Nat→Prop} (hk:q0 w I ι σ D w' I' ι' σ' D') {c:Array Value} {es:Nat} {get:Nat→Option (List AV)} (h:RowsIn w I ι σ D c es get):RowsIn w' I' ι' σ' D' c es get:=
 fun i row hr=>⟨(h i row hr).1,fun j v hv=>let ⟨x,hx,hrep⟩:=(h i row hr).2 j v hv;⟨x,hx,hrep.mono hk⟩⟩
theorem a4E {es:Nat} {xs ys:List (List AV)} {os cs rest:Array Value} (ho:os.size=xs.length*es) (_hcs:cs.size=ys.length*es)
 (h1:∀ (i:Nat) (row:List AV),xs[i]?=some row→row.length=es) (h2:∀ (i:Nat) (row:List AV),ys[i]?=some row→row.length=es)
 (g1:∀ (i j:Nat) (row:List AV) (q:AV),xs[i]?=some row→row[j]?=some q→∃ x,os[i*es+j]?=some x∧a6k w I ι σ D x q)
 (g2:∀ (i j:Nat) (row:List AV) (q:AV),ys[i]?=some row→row[j]?=some q→∃ x,cs[i*es+j]?=some x∧a6k w I ι σ D x q):
 RowsIn w I ι σ D (os++cs++rest) es (fun i=>(xs++ys)[i]?):=by
 intro i row hr
 dsimp only at hr
 rcases Nat.lt_or_ge i xs.length with hi | hi
 ·rw [List.getElem?_append_left hi] at hr
  refine ⟨h1 i row hr,fun j v hv=>?_⟩
  obtain ⟨x,hx,hrep⟩:=g1 i j row v hr hv
  have hlt:=(Array.getElem?_eq_some_iff.1 hx).1
  refine ⟨x,?_,hrep⟩
  rw [Array.append_assoc,Array.getElem?_append_left hlt];exact hx
 ·rw [List.getElem?_append_right hi] at hr
  refine ⟨h2 _ row hr,fun j v hv=>?_⟩
  obtain ⟨x,hx,hrep⟩:=g2 _ j row v hr hv
  have hlt:=(Array.getElem?_eq_some_iff.1 hx).1
  refine ⟨x,?_,hrep⟩
  have e1:i*es+j=os.size+((i - xs.length)*es+j):=by
   rw [ho]
   have:i=xs.length+(i - xs.length):=by omega
   conv=>lhs;rw [this,Nat.add_mul]
   omega
  rw [Array.append_assoc,Array.getElem?_append_right (by omega),e1,Nat.add_sub_cancel_left,Array.getElem?_append_left hlt]
  exact hx
end
end Go.Ab
namespace Go.Ab
open Go.RowKit
section
variable {P:Program} {B:Nat} {w0:World} {I0:v9} {w w':World} {I:v9} {ι:Nat→Option Nat} {σ:b7} {D:Nat→Prop} {nm:Nat} {ρ:Operand→Value} {ev:RA→AV} {e:l7}
theorem b1l {es:Nat} {xs:List (List AV)} {cs:Array Value} (hcs:cs.size=xs.length*es) (hw:∀ (i:Nat) (row:List AV),xs[i]?=some row→row.length=es)
 (g:∀ (i j:Nat) (row:List AV) (q:AV),xs[i]?=some row→row[j]?=some q→∃ x,cs[i*es+j]?=some x∧a6k w I ι σ D x q):∀ x ∈ cs.toList,x.oneCell'=true:=by
 intro x hx
 obtain ⟨k,hk⟩:=List.getElem?_of_mem hx
 have hk':cs[k]?=some x:=by simpa using hk
 have hlt:k<xs.length*es:=by rw [← hcs];exact (Array.getElem?_eq_some_iff.1 hk').1
 have hes:0<es:=by rcases Nat.eq_zero_or_pos es with h0 | h0;(rw [h0] at hlt;simp at hlt);exact h0
 have hi:k / es<xs.length:=Nat.div_lt_of_lt_mul (by rw [Nat.mul_comm];exact hlt)
 have hrow:=List.getElem?_eq_getElem hi
 have hj:k % es<(xs[k / es]).length:=by rw [hw _ _ hrow];exact Nat.mod_lt _ hes
 obtain ⟨y,hy,hrep⟩:=g _ _ _ _ hrow (List.getElem?_eq_getElem hj)
 rw [Nat.mul_comm,Nat.div_add_mod,hk'] at hy
 cases hy
 exact hrep.1
theorem heap_drew:({w with drawn:=w.drawn+1}:World).heap=w.heap:=rfl
theorem b4b {sT xT el es bytes ty b n:Nat} {o o':d9} {olds xs:List (List AV)} {vs vx:Value} {rd:List Nat} (hc:Core B w0 I0 w I ι σ D) (hn:¬ D nm) (ht:b4Y P sT xT el es bytes)
 (hf:find σ b=some o) (hm:o.L0=false) (hm':o'.L0=false) (hes:o.es=es) (hes':o'.es=es) (hsl:o'.O3=o.O3) (hlen:o.len=n) (hlen':o'.len=n+xs.length)
 (hol:olds.length=n) (hor:∀ i,i<n→olds[i]?=o.row? i) (hrow':∀ i,o'.row? i=(olds++xs)[i]?) (hvs:e8 w I ι σ D vs (.own b 0 n)) (hx:a1U w I ι σ D es vx xs) (hbig:(n+xs.length)*bytes≤2 ^ 40)
 (he:e={v:=.own nm 0 (n+xs.length),rd:=rd,up:=[(b,none),(nm,some o')]}):
 Good P B w0 I0 w I ι σ D nm e (do pure (.value (← Builtin.append_ #[sT,xT] ty #[vs,vx]))):=by
 subst he
 cases hvs with
 | own hDb hone hvs=>
 have hov:=hvs o hf
 have hshow:a1U w I ι σ D es vs olds:=by
  have:=a7h hc.u6 hf hm hov hol (fun k hk=>by rw [hor k hk];simp)
  rwa [hes] at this
 obtain ⟨p,cap,rfl,hin,hcap,hcase⟩:=hov
 have hkill:=hc.u6.kill b
 have hLk:q0 w I ι σ D w I ι (Q7 σ b none) D:=b1Y b
 obtain ⟨pS,capS,eS,_,hwo,_⟩:=hshow
 have hshow:a1U w I ι σ D es (.slice p n cap) olds:=by
  have:=a7h hc.u6 hf hm (hvs o hf) hol (fun k hk=>by rw [hor k hk];simp)
  rwa [hes] at this
 have hwx:∀ (i:Nat) (row:List AV),xs[i]?=some row→row.length=es:=by obtain ⟨_,_,_,_,h,_⟩:=hx;exact h
 by_cases hroom:n+xs.length≤cap
 ·obtain ⟨cs,hfc,hcs,hg⟩:=u5 (P:=P) hx
  rcases hcase with ⟨h0,hc0⟩ | ⟨r,c,T,fz,hr,rfl,hheap,hsz⟩
  ·
   have hx0:xs=[]:=List.eq_nil_of_length_eq_zero (by omega)
   subst hx0
   have hcs0:cs=#[]:=Array.eq_empty_of_size_eq_zero (by simpa using hcs)
   subst hcs0
   have hrun:=Y4 (ty:=ty) ht (p:=p) (n:=n) hx hroom hfc (w':=w) (by cases p <;>simp [storeCells])
   obtain ⟨hS,hL⟩:=hkill.empty (nm:=nm) (o:=o') hn hm' (by simp [hlen',h0])
   refine ⟨_,.slice p (n+0) cap,w,by simpa using congrArg (fun r=>r.andThen fun a w'=>Result.ok (Next.value a) w') hrun,.inl rfl,I,l5 ι nm none,a2l D nm,⟨hS,hc.below,hc.hB,hc.ext,hc.old⟩,hLk.trans hL,?_,?_⟩
   ·refine .own (.inr rfl) rfl fun o₁ ho₁=>?_
    exact ⟨p,cap,by simp,by
     simp only [m0] at ho₁
     rw [l6,if_pos rfl] at ho₁;cases ho₁
     simp [hlen'],⟨by simpa using hcap.1,by
     simp only [m0] at ho₁
     rw [l6,if_pos rfl] at ho₁;cases ho₁
     have:=hcap.1
     simp only [hlen',h0,List.length_nil];omega⟩,.inl ⟨by simp [h0],hc0⟩⟩
   ·rintro b' (h | rfl)
    ·exact .inl h
    ·exact .inr ⟨Nat.le_refl _,by simp [g9]⟩
  ·
   have hgB:B≤r:=hc.u6.ge b o r hf hr
   have hobj:=hc.u6.obj b o hf
   have hR:D6 w I ι σ D b o:=by
    cases o with
    | map ents=>simp [d9.L0] at hm
    | arr e' rs s=>exact hobj
    | box e' rs s=>exact hobj
   rcases hR with ⟨h1,_⟩ | ⟨r',c',T',fz',k1,k2,k3,k4,k5⟩
   ·rw [hr] at h1;cases h1
   rw [hr] at k1;cases k1
   rw [hheap] at k2;cases k2
   rw [hes] at k4 hsz
   have hfit:n*es+0+cs.toList.length≤c.size:=by
    have h1:(n+xs.length)*es≤cap*es:=Nat.mul_le_mul_right _ hroom
    rw [Nat.add_mul] at h1
    have:cs.toList.length=cs.size:=by simp
    simp only [Nat.zero_add] at hsz
    omega
   obtain ⟨w',c',s1,s2,s3,s4,s5,s6⟩:=G9 (P:=P) r (n*es) cs.toList 0 c T fz w hheap k3 hfit (b1l hcs hwx hg) hgB hc.below
   have hrun:=Y4 (ty:=ty) ht (p:=some ⟨r,0*o.es,none⟩) (n:=n) hx hroom hfc (w':=w') (by simp only [Nat.zero_mul,a0w,Nat.zero_add];exact s1)
   simp only [Nat.add_zero] at s3
   have hcl:cs.toList.length=xs.length*es:=by simpa using hcs
   obtain ⟨hS,hL⟩:=hc.u6.extend (nm:=nm) (o':=o') (c':=c') (w':=w') hf hr hn hm' (by rw [hes',hes]) hsl (by omega) k3 hheap s2 s3.1 s5
    (fun k hk=>by rw [s3.2,if_neg];rw [hlen,hes] at hk;omega)
    (by rw [hlen',hes'];have h1:(n+xs.length)*es≤cap*es:=Nat.mul_le_mul_right _ hroom
        simp only [Nat.zero_add] at hsz;omega) s4
    (fun i row hrw=>by
     rw [hrow' i] at hrw
     rw [hes']
     rcases Nat.lt_or_ge i olds.length with hi | hi
     ·rw [List.getElem?_append_left hi,hor i (by omega)] at hrw
      obtain ⟨q1,q2⟩:=k5 i row hrw
      refine ⟨by rw [q1,hes],fun j v hv=>?_⟩
      obtain ⟨x,hx',hrep⟩:=q2 j v hv
      rw [hes] at hx'
      have hj:j<es:=by rw [← hes,← q1];exact (List.getElem?_eq_some_iff.1 hv).1
      refine ⟨x,?_,hrep⟩
      rw [s3.2,if_neg];exact hx'
      have:(i+1)*es≤n*es:=Nat.mul_le_mul_right _ (by omega)
      rw [Nat.add_mul,Nat.one_mul] at this;omega
     ·rw [List.getElem?_append_right hi] at hrw
      refine ⟨hwx _ row hrw,fun j v hv=>?_⟩
      obtain ⟨x,hx',hrep⟩:=hg _ j row v hrw hv
      refine ⟨x,?_,hrep⟩
      have e1:i*es+j=n*es+((i - olds.length)*es+j):=by
       have:i=n+(i - olds.length):=by omega
       conv=>lhs;rw [this,Nat.add_mul]
       omega
      have hlt:=(Array.getElem?_eq_some_iff.1 hx').1
      rw [s3.2,e1,if_pos ⟨by omega,by rw [hcl,← hcs];omega⟩,Nat.add_sub_cancel_left]
      simpa using hx')
   refine ⟨_,.slice (some ⟨r,0*o.es,none⟩) (n+xs.length) cap,w',by simpa using congrArg (fun r=>r.andThen fun a w'=>Result.ok (Next.value a) w') hrun,.inl rfl,I,l5 ι nm (some r),a2l D nm,⟨hS,s6,hc.hB,hc.ext,hc.old⟩,hL,?_,?_⟩
   ·refine .own (.inr rfl) rfl fun o₁ ho₁=>?_
    simp only [m0] at ho₁
    rw [l6,if_pos rfl] at ho₁;cases ho₁
    exact ⟨_,cap,rfl,by omega,⟨hroom,by omega⟩,.inr ⟨r,c',T,fz,by simp [l5],by simp,s2,by rw [hes',s3.1];simpa using hsz⟩⟩
   ·rintro b' (h | rfl)
    ·exact .inl h
    ·exact .inr ⟨Nat.le_refl _,by simp [g9]⟩
 ·
  obtain ⟨cs,hfc,hcs,hg⟩:=u5 (P:=P) (w:={w with drawn:=w.drawn+1}) (hx.heap heap_drew)
  obtain ⟨os,hfo,hos,hgo⟩:=u5 (P:=P) (w:={w with drawn:=w.drawn+1}) (hshow.heap heap_drew)
  rw [hol] at hfo hos
  obtain ⟨newCap,rest,w',hnc,hrest,hrun,hheap,hbel⟩:=run_append_grow (ty:=ty) ht hx hroom hbig hfc hfo
  have hLd:q0 {w with drawn:=w.drawn+1} I ι σ D w I ι σ D:=a1D rfl
  have hrows:RowsIn w I ι σ D (os++cs++rest) es (fun i=>(olds++xs)[i]?):=by
   have:=a4E (w:={w with drawn:=w.drawn+1}) (I:=I) (ι:=ι) (σ:=σ) (D:=D) (rest:=rest) (es:=es) (by rw [hol];exact hos) hcs hwo hwx hgo hg
   exact this.mono hLd
  have hBw:B≤w.heap.size:=Nat.le_trans hc.hB hc.below.size
  have hS:=hkill.new (nm:=nm) (o:=o') (w':=w') hBw hn hheap (.inr (Nat.le_refl _)) hm' (by
   rw [hlen',hes'];simp only [Array.size_append,hos,hcs];rw [Nat.add_mul];omega)
   (fun i row hrw=>by
    rw [hrow' i] at hrw
    rw [hes']
    exact (hrows.mono hLk) i row hrw)
  have hL:=hLk.trans (a7a (nm:=nm) (x:=some w.heap.size) (o:=o') hn hkill.bnd hheap)
  refine ⟨_,.slice (some ⟨w.heap.size,0,none⟩) (n+xs.length) newCap,w',by simpa using congrArg (fun r=>r.andThen fun a w'=>Result.ok (Next.value a) w') hrun,.inl rfl,I,l5 ι nm (some w.heap.size),a2l D nm,⟨hS,hbel B w0 hBw hc.below,hc.hB,hc.ext,hc.old⟩,hL,?_,?_⟩
  ·refine a3v (c:=os++cs++rest) (T:=el) (fz:=(0,0)) (.inr rfl) (by simp [l5]) (by rw [hheap];simp) (by omega) hnc ?_
   rw [hes']
   simp only [Array.size_append,hos,hcs,hrest]
   rw [Nat.sub_mul,Nat.add_mul]
   have:(n+xs.length)*es≤newCap*es:=Nat.mul_le_mul_right _ hnc
   rw [Nat.add_mul] at this
   omega
  ·rintro b' (h | rfl)
   ·exact .inl h
   ·exact .inr ⟨Nat.le_refl _,by simp [g9]⟩
theorem c4f {sT xT el es bytes ty b n:Nat} {rows xs:List (List PV)} {vs vx:Value} {rd:List Nat} (hc:Core B w0 I0 w I ι σ D) (ht:b4Y P sT xT el es bytes)
 (hf:find σ b=some (.arr es rows false)) (hvs:e8 w I ι σ D vs (.own b 0 n)) (hx:a1U w I ι σ D es vx (xs.map (·.map .pv))) (hfit0:n+xs.length≤rows.length) (hpos:0<rows.length)
 (he:e={v:=.own b 0 (n+xs.length),rd:=rd,up:=[(b,some (.arr es (rows.take n++xs++rows.drop (n+xs.length)) false))]}):
 Good P B w0 I0 w I ι σ D nm e (do pure (.value (← Builtin.append_ #[sT,xT] ty #[vs,vx]))):=by
 subst he
 cases hvs with
 | own hD hone hvs=>
 obtain ⟨p,cap,rfl,hin,⟨hcap,hend⟩,hcase⟩:=hvs _ hf
 simp only [d9.len,d9.es] at hin hend hcase
 have hwx:∀ (i:Nat) (row:List AV),(xs.map (·.map AV.pv))[i]?=some row→row.length=es:=by obtain ⟨_,_,_,_,h,_⟩:=hx;exact h
 obtain ⟨cs,hfc,hcs,hg⟩:=u5 (P:=P) hx
 have hxl:(xs.map (·.map AV.pv)).length=xs.length:=by simp
 have hroom:n+(xs.map (·.map AV.pv)).length≤cap:=by rw [hxl];omega
 rcases hcase with ⟨h0,h1⟩ | ⟨r,c,T,fz,hr,rfl,hheap,hsz⟩
 ·omega
 have hobj:=hc.u6.obj b _ hf
 rcases hobj with ⟨h1,_⟩ | ⟨r',c',T',fz',k1,k2,k3,k4,k5⟩
 ·rw [hr] at h1;cases h1
 rw [hr] at k1;cases k1
 rw [hheap] at k2;cases k2
 simp only [d9.len,d9.es] at k4 k5
 rw [hxl] at hcs
 have hcl:cs.toList.length=xs.length*es:=by simpa using hcs
 have hfit:n*es+0+cs.toList.length≤c.size:=by
  have h1:(n+xs.length)*es≤rows.length*es:=Nat.mul_le_mul_right _ hfit0
  rw [Nat.add_mul] at h1;omega
 have hgB:B≤r:=hc.u6.ge b _ r hf hr
 obtain ⟨w',c',s1,s2,s3,s4,s5,s6⟩:=G9 (P:=P) r (n*es) cs.toList 0 c T fz w hheap k3 hfit (b1l (by rw [hxl];exact hcs) hwx hg) hgB hc.below
 have hrun:=Y4 (ty:=ty) ht (p:=some ⟨r,0*es,none⟩) (n:=n) hx hroom hfc (w':=w') (by simp only [Nat.zero_mul,a0w,Nat.zero_add];exact s1)
 simp only [Nat.add_zero] at s3
 have hlen':(rows.take n++xs++rows.drop (n+xs.length)).length=rows.length:=by simp;omega
 have hget:∀ i',(rows.take n++xs++rows.drop (n+xs.length))[i']?=if n≤i'∧i'<n+xs.length then xs[i' - n]? else rows[i']?:=by
  intro i'
  have hl1:(rows.take n).length=n:=by simp;omega
  by_cases hlt:i'<n
  ·rw [if_neg (by omega),List.append_assoc,List.getElem?_append_left (by omega),List.getElem?_take_of_lt hlt]
  ·by_cases hlt2:i'<n+xs.length
   ·rw [if_pos ⟨by omega,hlt2⟩,List.append_assoc,List.getElem?_append_right (by omega),hl1,List.getElem?_append_left (by omega)]
   ·rw [if_neg (by omega),List.getElem?_append_right (by simp;omega),List.getElem?_drop]
    congr 1;simp;omega
 obtain ⟨hS,hL⟩:=hc.u6.write (o':=.arr es (rows.take n++xs++rows.drop (n+xs.length)) false) (c':=c') (w':=w') hf hr rfl rfl rfl hlen' k3 k4 hheap s2 s3.1 s5 s4 (fun i' row hrw=>by
  simp only [d9.row?,d9.es] at hrw ⊢
  split at hrw
  ·rename_i pr hpr
   cases hrw
   rw [hget] at hpr
   by_cases hin':n≤i'∧i'<n+xs.length
   ·rw [if_pos hin'] at hpr
    have hpr':(xs.map (·.map AV.pv))[i' - n]?=some (pr.map AV.pv):=by
     rw [List.getElem?_map,hpr];rfl
    refine ⟨hwx _ _ hpr',fun j v hv=>?_⟩
    obtain ⟨x,hx',hrep⟩:=hg (i' - n) j _ v hpr' hv
    refine ⟨x,?_,hrep⟩
    have e1:i'*es+j=n*es+((i' - n)*es+j):=by
     have:i'=n+(i' - n):=by omega
     conv=>lhs;rw [this,Nat.add_mul]
     omega
    have hlt:=(Array.getElem?_eq_some_iff.1 hx').1
    rw [s3.2,e1,if_pos ⟨by omega,by rw [hcl,← hcs];omega⟩,Nat.add_sub_cancel_left]
    simpa using hx'
   ·rw [if_neg hin'] at hpr
    obtain ⟨q1,q2⟩:=k5 i' (pr.map .pv) (by simp [d9.row?,hpr])
    refine ⟨q1,fun j v hv=>?_⟩
    obtain ⟨x,hx',hrep⟩:=q2 j v hv
    have hj:j<es:=by rw [← q1];exact (List.getElem?_eq_some_iff.1 hv).1
    refine ⟨x,?_,hrep⟩
    rw [s3.2,if_neg];exact hx'
    rw [hcl]
    rintro ⟨g1,g2⟩
    rcases Nat.lt_or_ge i' n with hlt | hge
    ·have:(i'+1)*es≤n*es:=Nat.mul_le_mul_right _ hlt
     rw [Nat.add_mul,Nat.one_mul] at this;omega
    ·have:(n+xs.length)*es≤i'*es:=Nat.mul_le_mul_right _ (by omega)
     rw [Nat.add_mul] at this;omega
  ·cases hrw)
 refine ⟨_,.slice (some ⟨r,0*es,none⟩) (n+xs.length) cap,w',by simpa using congrArg (fun r=>r.andThen fun a w'=>Result.ok (Next.value a) w') hrun,.inl rfl,I,ι,D,⟨hS,s6,hc.hB,hc.ext,hc.old⟩,hL,?_,fun _ h=>.inl h⟩
 refine .own hD rfl fun o₁ ho₁=>?_
 simp only [m0] at ho₁
 rw [l6,if_pos rfl] at ho₁;cases ho₁
 refine ⟨_,cap,rfl,by simp only [d9.len];omega,⟨by omega,by simp only [d9.len];omega⟩,.inr ⟨r,c',T,fz,hr,by simp [d9.es],s2,?_⟩⟩
 simp only [d9.es]
 rw [s3.1];exact hsz
end
end Go.Ab
namespace Go.Ab
open Go.RowKit
section
variable {P:Program} {B:Nat} {w0:World} {I0:v9} {w w':World} {I:v9} {ι:Nat→Option Nat} {σ:b7} {D:Nat→Prop} {nm:Nat} {ρ:Operand→Value} {ev:RA→AV} {e:l7}
theorem c2s {sT xT el es bytes ty e0:Nat} {xs:List (List AV)} {vs vx:Value} {rd:List Nat} (hc:Core B w0 I0 w I ι σ D) (hn:¬ D nm) (ht:b4Y P sT xT el es bytes)
 (hvs:e8 w I ι σ D vs (.emp e0)) (hx:a1U w I ι σ D es vx xs) (hbig:xs.length*bytes≤2 ^ 40) (he:e={v:=.own nm 0 xs.length,rd:=rd,up:=[(nm,some (mkObj es xs))]}):
 Good P B w0 I0 w I ι σ D nm e (do pure (.value (← Builtin.append_ #[sT,xT] ty #[vs,vx]))):=by
 subst he
 cases hvs with
 | emp=>
 have hwx:∀ (i:Nat) (row:List AV),xs[i]?=some row→row.length=es:=by obtain ⟨_,_,_,_,h,_⟩:=hx;exact h
 by_cases hroom:0+xs.length≤0
 ·have hx0:xs=[]:=List.eq_nil_of_length_eq_zero (by omega)
  subst hx0
  obtain ⟨cs,hfc,hcs,hg⟩:=u5 (P:=P) hx
  have hcs0:cs=#[]:=Array.eq_empty_of_size_eq_zero (by simpa using hcs)
  subst hcs0
  have hrun:=Y4 (ty:=ty) ht (p:=none) (n:=0) (cap:=0) hx hroom hfc (w':=w) (by simp)
  obtain ⟨hS,hL⟩:=hc.u6.empty (nm:=nm) (o:=mkObj es []) hn rfl rfl
  refine ⟨_,.slice none (0+0) 0,w,by simpa using congrArg (fun r=>r.andThen fun a w'=>Result.ok (Next.value a) w') hrun,.inl rfl,I,l5 ι nm none,a2l D nm,⟨hS,hc.below,hc.hB,hc.ext,hc.old⟩,hL,?_,?_⟩
  ·refine .own (.inr rfl) rfl fun o₁ ho₁=>?_
   refine ⟨none,0,by simp,by simp,⟨Nat.le_refl _,?_⟩,.inl ⟨rfl,rfl⟩⟩
   simp only [m0] at ho₁
   rw [l6,if_pos rfl] at ho₁;cases ho₁
   simp [mkObj,a0s,d9.len]
  ·rintro b' (h | rfl)
   ·exact .inl h
   ·exact .inr ⟨Nat.le_refl _,by simp [g9]⟩
 ·obtain ⟨cs,hfc,hcs,hg⟩:=u5 (P:=P) (w:={w with drawn:=w.drawn+1}) (hx.heap heap_drew)
  have hfo:(Builtin.firstCells es 0 (.slice none 0 0)).run P {w with drawn:=w.drawn+1}= .ok #[] {w with drawn:=w.drawn+1}:=by simp [Builtin.firstCells]
  obtain ⟨newCap,rest,w',hnc,hrest,hrun,hheap,hbel⟩:=run_append_grow (ty:=ty) ht (n:=0) (cap:=0) hx hroom (by simpa using hbig) hfc hfo
  have hrows:RowsIn w I ι σ D (#[]++cs++rest) es (fun i=>xs[i]?):=by
   have:=a4E (w:={w with drawn:=w.drawn+1}) (I:=I) (ι:=ι) (σ:=σ) (D:=D) (xs:=[]) (os:=#[]) (rest:=rest) (es:=es) (by simp) hcs (fun i row hr=>by simp at hr) hwx (fun i j row q hr=>by simp at hr) hg
   simpa using this.mono (a1D rfl:q0 {w with drawn:=w.drawn+1} I ι σ D w I ι σ D)
  obtain ⟨m1,m2,m3,m4,m5⟩:=b2a hrows
  have hBw:B≤w.heap.size:=Nat.le_trans hc.hB hc.below.size
  simp only [Nat.zero_add] at hrun hnc hrest
  refine a4R (w':=w') (v:=.slice (some ⟨w.heap.size,0,none⟩) xs.length newCap) (c:=#[]++cs++rest) (T:=el) (fz:=(0,0)) hc hn (by simpa using congrArg (fun r=>r.andThen fun a w'=>Result.ok (Next.value a) w') hrun) hheap (hbel B w0 hBw hc.below) (.inr (Nat.le_refl _)) m3 ?_ (by rw [m1];exact m5) rfl ?_
  ·rw [m1,m2];simp only [Array.size_append,hcs,List.size_toArray,List.length_nil];omega
  ·refine a3v (c:=#[]++cs++rest) (T:=el) (fz:=(0,0)) (.inr rfl) (by simp [l5]) (by rw [hheap];simp) (by rw [m2]) hnc ?_
   rw [m1]
   simp only [Array.size_append,hcs,hrest,List.size_toArray,List.length_nil]
   rw [Nat.sub_mul]
   have:xs.length*es≤newCap*es:=Nat.mul_le_mul_right _ hnc
   omega
def b1S (I:v9) (r:Nat):v9:=fun r' k=>I r' k∨r'=r
theorem Core.fresh {ob:Obj} (hc:Core B w0 I0 w I ι σ D) (hw:w'.heap=w.heap.push ob) (hb:Below B w0 w'):
 Core B w0 I0 w' (b1S I w.heap.size) ι σ D∧q0 w I ι σ D w' (b1S I w.heap.size) ι σ D:=by
 have hBw:B≤w.heap.size:=Nat.le_trans hc.hB hc.below.size
 have hold:∀ r,r<w.heap.size→w'.heap[r]?=w.heap[r]?:=fun r hr=>by rw [hw,Array.getElem?_push,if_neg (by omega)]
 have hL:q0 w I ι σ D w' (b1S I w.heap.size) ι σ D:=by
  refine ⟨⟨fun r' k v hi hx=>⟨(B3 (hold r' (hc.u6.bnd r' k hi))).trans hx,.inl hi⟩,fun _ h=>h,fun b' o₁ hD h=>⟨o₁,h,rfl,rfl,rfl⟩,fun r₁ c₁ T₁ fz₁ h₁=>⟨c₁,fz₁,?_,rfl⟩,fun _ _=>rfl⟩,fun r₁ _ _ h₁=>by rw [hold r₁ (Array.getElem?_eq_some_iff.1 h₁).1];exact h₁⟩
  rw [hold r₁ (Array.getElem?_eq_some_iff.1 h₁).1];exact h₁
 refine ⟨⟨⟨fun r k hi=>?_,hc.u6.dom,hc.u6.inj,hc.u6.ge,fun b o r k ho hr hi=>?_,fun b o ho=>?_⟩,hb,hc.hB,fun r k h=>.inl (hc.ext r k h),fun r k hr hi=>?_⟩,hL⟩
 ·rw [hw,Array.size_push]
  rcases hi with hi | rfl
  ·have:=hc.u6.bnd r k hi;omega
  ·omega
 ·rcases hi with hi | rfl
  ·exact hc.u6.sep b o r k ho hr hi
  ·have:=hc.u6.lt ho hr;omega
 ·exact (hc.u6.obj b o ho).mono hL rfl fun r hr=>hold r (hc.u6.lt ho hr)
 ·rcases hi with hi | rfl
  ·exact hc.old r k hr hi
  ·omega
theorem c2t {sT xT el es bytes ty:Nat} {rows xs:List (List PV)} {vs vx:Value} {rd:List Nat} (hc:Core B w0 I0 w I ι σ D) (ht:b4Y P sT xT el es bytes)
 (hvs:e8 w I ι σ D vs (.fsl es rows)) (hx:a1U w I ι σ D es vx (xs.map (·.map .pv))) (hbig:(rows.length+xs.length)*bytes≤2 ^ 40) (he:e={v:=.pv (.sl es (rows++xs)),rd:=rd,up:=[]}):
 Good P B w0 I0 w I ι σ D nm e (do pure (.value (← Builtin.append_ #[sT,xT] ty #[vs,vx]))):=by
 subst he
 cases hvs with
 | fsl hvs=>
 rename_i p n
 have hshow:=a8o (ι:=ι) (σ:=σ) (D:=D) hvs
 have hnl:rows.length=n:=by cases hvs with | sl f hl _ _ _ _=>exact hl
 subst hnl
 have hwx:∀ (i:Nat) (row:List AV),(xs.map (·.map AV.pv))[i]?=some row→row.length=es:=by obtain ⟨_,_,_,_,h,_⟩:=hx;exact h
 have hwo:∀ (i:Nat) (row:List AV),(rows.map (·.map AV.pv))[i]?=some row→row.length=es:=by obtain ⟨_,_,_,_,h,_⟩:=hshow;exact h
 by_cases hroom:rows.length+(xs.map (·.map AV.pv)).length≤rows.length
 ·have hx0:xs=[]:=List.eq_nil_of_length_eq_zero (by rw [List.length_map] at hroom;omega)
  subst hx0
  obtain ⟨cs,hfc,hcs,hg⟩:=u5 (P:=P) hx
  have hcs0:cs=#[]:=Array.eq_empty_of_size_eq_zero (by simpa using hcs)
  subst hcs0
  have hrun:=Y4 (ty:=ty) ht (p:=p) (n:=rows.length) (cap:=rows.length) hx hroom hfc (w':=w) (by cases p <;>simp [storeCells])
  exact f0 (v:=.slice p rows.length rows.length) hc (by simpa using congrArg (fun r=>r.andThen fun a w'=>Result.ok (Next.value a) w') hrun) rfl (by simpa using e8.pv hvs)
 ·obtain ⟨cs,hfc,hcs,hg⟩:=u5 (P:=P) (w:={w with drawn:=w.drawn+1}) (hx.heap heap_drew)
  obtain ⟨os,hfo,hos,hgo⟩:=u5 (P:=P) (w:={w with drawn:=w.drawn+1}) (hshow.heap heap_drew)
  simp only [List.length_map] at hfo hos hcs hroom
  obtain ⟨newCap,rest,w',hnc,hrest,hrun,hheap,hbel⟩:=run_append_grow (ty:=ty) ht (n:=rows.length) (cap:=rows.length) hx (by simpa using hroom) (by simpa using hbig) hfc hfo
  have hBw:B≤w.heap.size:=Nat.le_trans hc.hB hc.below.size
  obtain ⟨hC,hL⟩:=hc.fresh hheap (hbel B w0 hBw hc.below)
  have hrows:RowsIn w' (b1S I w.heap.size) ι σ D (os++cs++rest) es (fun i=>(rows.map (·.map AV.pv)++xs.map (·.map AV.pv))[i]?):=by
   have:=a4E (w:={w with drawn:=w.drawn+1}) (I:=I) (ι:=ι) (σ:=σ) (D:=D) (rest:=rest) (es:=es) (by simpa using hos) (by simpa using hcs) hwo hwx hgo hg
   exact (this.mono (a1D rfl:q0 {w with drawn:=w.drawn+1} I ι σ D w I ι σ D)).mono hL
  have hlen:(xs.map (·.map AV.pv)).length=xs.length:=by simp
  rw [hlen] at hrun hnc hrest
  have hnew:w'.heap[w.heap.size]?=some (Obj.cells (os++cs++rest) el (0,0)):=by rw [hheap];simp
  refine ⟨_,.slice (some ⟨w.heap.size,0,none⟩) (rows.length+xs.length) newCap,w',by simpa using congrArg (fun r=>r.andThen fun a w'=>Result.ok (Next.value a) w') hrun,.inl rfl,b1S I w.heap.size,ι,D,hC,hL,?_,fun _ h=>.inl h⟩
  have hrow:∀ (i:Nat) (row:List PV),(rows++xs)[i]?=some row→(rows.map (·.map AV.pv)++xs.map (·.map AV.pv))[i]?=some (row.map AV.pv):=by
   intro i row hr
   rw [← List.map_append,List.getElem?_map,hr];rfl
  refine .pv (.sl (fun i j=>((os++cs++rest)[i*es+j]?).getD undef) (by simp) hnc (fun i row hr=>?_) (fun _=>⟨_,rfl,rfl,fun i j hi hj=>?_⟩) (fun i j row q hr hq=>?_))
  ·have:=(hrows i _ (hrow i row hr)).1
   simpa using this
  ·have hri:=List.getElem?_eq_getElem hi
   obtain ⟨h1,h2⟩:=hrows i _ (hrow i _ hri)
   have hj':j<((rows++xs)[i].map AV.pv).length:=by rw [h1];exact hj
   obtain ⟨x,hx',hrep⟩:=h2 j _ (List.getElem?_eq_getElem hj')
   simp only [Nat.zero_add]
   rw [cell_of hnew,hx']
   exact ⟨rfl,.inr rfl,hrep.1⟩
  ·obtain ⟨h1,h2⟩:=hrows i _ (hrow i row hr)
   obtain ⟨x,hx',hrep⟩:=h2 j (.pv q) (by simp [hq])
   rw [hx']
   cases hrep.2 with
   | pv h=>exact h
variable (hc:Core B w0 I0 w I ι σ D) (hn:¬ D nm) (hev:∀ o r,i7 o r=true→e8 w I ι σ D (ρ o) (ev r))
include hc hn hev
theorem b6Y {sT xT el es bytes ty:Nat} {x y:Operand} {x' y':RA} (ht:b4Y P sT xT el es bytes) (h1:i7 x x'=true) (h2:i7 y y'=true) (h:step σ nm ev (.append es bytes x' y')=some e):
 Good P B w0 I0 w I ι σ D nm e (do pure (.value (← Builtin.append_ #[sT,xT] ty #[ρ x,ρ y]))):=by
 simp only [step] at h
 have hx:=(hev _ _ h1).e
 have hy:=hev _ _ h2
 split at h
 ·rename_i e0 hb
  rw [hb] at hx
  split at h
  ·rename_i xs rd hr
   split at h
   ·rename_i hle
    exact c2s hc hn ht hx (a3Z hc.u6 hr hy) hle (Option.some.inj h).symm
   ·cases h
  ·cases h
 ·rename_i e0 rows hb
  rw [hb] at hx
  split at h
  ·rename_i xs rd hr
   split at h
   ·rename_i hle
    obtain ⟨hle,rfl⟩:=hle
    exact c2t hc ht hx (a1a hc.u6 hr hy) hle (Option.some.inj h).symm
   ·cases h
  ·cases h
 ·rename_i b n hb
  rw [hb] at hx
  split at h
  ·rename_i es' rows sl hf
   split at h
   ·rename_i hle
    obtain ⟨hln,rfl⟩:=hle
    split at h
    ·rename_i xs rd hr
     split at h
     ·rename_i hbig
      refine b4b (o:=.arr es' rows sl) (o':=.arr es' (rows++xs) sl) (olds:=rows.map (·.map .pv)) (xs:=xs.map (·.map .pv)) (rd:=b::rd) hc hn ht hf rfl rfl rfl rfl rfl hln (by simp [d9.len,hln]) (by simpa using hln) (fun i hi=>?_) (fun i=>?_) hx (a1a hc.u6 hr hy) (by simpa using hbig) (by have:=(Option.some.inj h).symm;simpa using this)
      ·simp only [d9.row?,List.getElem?_map];cases rows[i]? <;>rfl
      ·rw [← List.map_append];simp only [d9.row?,List.getElem?_map];cases (rows++xs)[i]? <;>rfl
     ·cases h
    ·split at h
     ·rename_i xs rd hr
      split at h
      ·rename_i hbig
       refine b4b (o:=.arr es' rows sl) (o':=.box es' (rows.map (·.map .pv)++xs) sl) (olds:=rows.map (·.map .pv)) (xs:=xs) (rd:=b::rd) hc hn ht hf rfl rfl rfl rfl rfl hln (by simp [d9.len,hln]) (by simpa using hln) (fun i hi=>?_) (fun i=>rfl) hx (a3Z hc.u6 hr hy) (by simpa using hbig) (by have:=(Option.some.inj h).symm;simpa using this)
       simp only [d9.row?,List.getElem?_map];cases rows[i]? <;>rfl
      ·cases h
     ·cases h
   ·split at h
    ·cases h
    ·split at h
     ·rename_i xs rd hr
      split at h
      ·rename_i hle
       obtain ⟨h1,h2,rfl⟩:=hle
       exact c4f hc ht hf hx (a1a hc.u6 hr hy) h1 h2 (Option.some.inj h).symm
      ·cases h
     ·cases h
  ·rename_i es' rows sl hf
   split at h
   ·rename_i hle
    obtain ⟨hln,rfl⟩:=hle
    split at h
    ·rename_i xs rd hr
     split at h
     ·rename_i hbig
      exact b4b (o:=.box es' rows sl) (o':=.box es' (rows++xs) sl) (olds:=rows) (xs:=xs) (rd:=b::rd) hc hn ht hf rfl rfl rfl rfl rfl hln (by simp [d9.len,hln]) hln (fun i hi=>rfl) (fun i=>rfl) hx (a3Z hc.u6 hr hy) (by simpa using hbig) (Option.some.inj h).symm
     ·cases h
    ·cases h
   ·cases h
  ·cases h
 ·cases h
end
end Go.Ab
namespace Go.Ab
open Go.RowKit
section
variable {P:Program} {B:Nat} {w0:World} {I0:v9} {w w':World} {I:v9} {ι:Nat→Option Nat} {σ:b7} {D:Nat→Prop} {nm:Nat} {ρ:Operand→Value} {ev:RA→AV} {e:l7}
theorem b2P {b:Nat} {o:d9}:∀ {σ:b7},find σ b=some o→find (Q7 σ b (some o))=find σ:=by
 intro σ h
 funext b'
 rw [l6]
 by_cases e:b'=b
 ·rw [if_pos e,e,h]
 ·rw [if_neg e]
variable (hc:Core B w0 I0 w I ι σ D) (hev:∀ o r,i7 o r=true→e8 w I ι σ D (ρ o) (ev r))
include hc hev
omit hc in
theorem c0z {isMax:Bool}:∀ (l:List Operand) (m:List RA) (v:Value) (a r:AV),a1g l m=true→mmF isMax ev a m=some r→e8 w I ι σ D v a→
 ∃ v',((l.map ρ).foldlM (if isMax then Builtin.max2 else Builtin.min2) v).run P w= .ok v' w∧e8 w I ι σ D v' r
 | [],[],v,a,r,_,h,hv=>by simp only [mmF] at h;cases h;exact ⟨v,by simp,hv⟩
 | o::l,x::m,v,a,r,hk,h,hv=>by
   simp only [a1g,Bool.and_eq_true] at hk
   simp only [mmF] at h
   split at h
   ·rename_i r' hr'
    have ho:=hev _ _ hk.1
    unfold mm2 at hr'
    split at hr'
    ·rename_i k a' k' b' hb
     split at hr'
     ·rename_i hkk
      subst hkk
      cases hr'
      have hvi:=a5y hv
      have hoi:=a9x hev hk.1 hb
      obtain ⟨v',h1,h2⟩:=c0z l m (.int k (if isMax then (if b'>a' then b' else a') else (if b'<a' then b' else a'))) _ r hk.2 h (.pv (.int _ _))
      refine ⟨v',?_,h2⟩
      rw [List.map_cons,List.foldlM_cons,hvi,hoi]
      cases isMax
      ·simp only [Bool.false_eq_true,if_false,Builtin.min2,Sem.run_bind,Sem.run_pure,Result.andThen_ok] at h1 ⊢
       exact h1
      ·simp only [if_true,Builtin.max2,Sem.run_bind,Sem.run_pure,Result.andThen_ok] at h1 ⊢
       exact h1
     ·cases hr'
    ·cases hr'
   ·cases h
 | [],_::_,_,_,_,hk,_,_=>by simp [a1g] at hk
 | _::_,[],_,_,_,hk,_,_=>by simp [a1g] at hk
theorem c1h {isMax:Bool} {xs:Array Operand} {xs':List RA} {ts:Array TypeId} {ty:TypeId} (hk:a1g xs.toList xs'=true) (h:step σ nm ev (.mm isMax xs')=some e):
 Good P B w0 I0 w I ι σ D nm e (do pure (.value (← (if isMax then Builtin.max_ ts ty (xs.map ρ) else Builtin.min_ ts ty (xs.map ρ))))):=by
 simp only [step] at h
 split at h
 ·cases h
 ·rename_i x l
  split at h
  ·rename_i v hv
   simp only [l7.of] at h;cases h
   obtain ⟨xl,rfl⟩:∃ xl,xs=List.toArray xl:=⟨xs.toList,by simp⟩
   match xl,hk with
   | o::ol,hk=>
     simp only [a1g,Bool.and_eq_true] at hk
     obtain ⟨v',h1,h2⟩:=c0z (P:=P) hev (isMax:=isMax) ol l (ρ o) (ev x) v hk.2 hv (hev _ _ hk.1)
     refine f0 (v:=v') hc ?_ rfl h2
     cases isMax
     ·simp only [Bool.false_eq_true,if_false] at h1 ⊢
      simp only [Builtin.min_,List.map_toArray,List.map_cons,Sem.run_bind,h1,Result.andThen_ok,Sem.run_pure]
     ·simp only [if_true] at h1 ⊢
      simp only [Builtin.max_,List.map_toArray,List.map_cons,Sem.run_bind,h1,Result.andThen_ok,Sem.run_pure]
  ·cases h
omit hc hev in
theorem b8n {rows:List (List PV)} {s:List UInt8}:R8 rows=some s→∀ (cs:List Value),cs.length=rows.length→
 (∀ (i:Nat) (row:List PV) (q:PV),rows[i]?=some row→row[0]?=some q→∃ x,cs[i]?=some x∧z5 w I x q)→
 ∀ (acc:List UInt8),(forIn cs (ByteArray.mk acc.toArray) (fun c (r:ByteArray)=>(match c with | .int .u8 n=>pure (ForInStep.yield (r.push (UInt8.ofNat n.toNat))) | _=>(do (stuck "bytesToString: byte expected":Sem PUnit);pure (ForInStep.yield r)):Sem (ForInStep ByteArray)))).run P w= .ok (ByteArray.mk (acc++s).toArray) w:=by
 induction rows generalizing s with
 | nil=>
   intro h cs hl _ acc
   simp only [R8] at h;cases h
   have:cs=[]:=List.eq_nil_of_length_eq_zero (by simpa using hl)
   subst this
   simp
 | cons row rows ih=>
   intro h cs hl hr acc
   match row,h with
   | [.int .u8 n],h=>
     simp only [R8] at h
     split at h
     ·rename_i r hrr
      cases h
      match cs,hl with
      | c::cs,hl=>
        obtain ⟨x,hx,hrep⟩:=hr 0 _ (.int .u8 n) rfl rfl
        simp at hx;subst hx
        cases hrep
        rw [List.forIn_cons]
        have hp:(ByteArray.mk acc.toArray).push (UInt8.ofNat n.toNat)=ByteArray.mk (acc++[UInt8.ofNat n.toNat]).toArray:=by
         simp [ByteArray.push]
        have:=ih hrr cs (by simpa using hl) (fun i row q h1 h2=>by simpa using hr (i+1) row q (by simpa using h1) h2) (acc++[UInt8.ofNat n.toNat])
        simp only [Sem.run_bind,Sem.run_pure,Result.andThen_ok,hp,this]
        simp
     ·cases h
theorem c2P {sT dT el:Nat} {x:Operand} {y:RA} (hs:P.underlying sT=some (.slice el)) (hd:P.underlying dT=some .string) (he:P.underlying el=some (.int .u8)) (h1:i7 x y=true) (h:step σ nm ev (.b2s y)=some e):
 Good P B w0 I0 w I ι σ D nm e (do pure (.value (← convert sT dT (ρ x)))):=by
 simp only [step] at h
 split at h
 ·rename_i rows rd hr
  split at h
  ·rename_i s hb
   cases h
   have hsh:=a1a hc.u6 hr (hev _ _ h1)
   obtain ⟨cs,hfc,hcs,hg⟩:=u5 (P:=P) hsh
   obtain ⟨p,cap,hv,hcap,hw,hp⟩:=hsh
   rw [hv] at hfc ⊢
   simp only [List.length_map,Nat.mul_one] at hfc hcs
   have hcells:∀ (i:Nat) (row:List PV) (q:PV),rows[i]?=some row→row[0]?=some q→∃ z,cs.toList[i]?=some z∧z5 w I z q:=by
    intro i row q h1 h2
    obtain ⟨z,hz,hrep⟩:=hg i 0 (row.map .pv) (.pv q) (by simp [h1]) (by simp [h2])
    refine ⟨z,by simpa using hz,?_⟩
    cases hrep.2 with | pv h=>exact h
   refine f0 (v:=.string ⟨s.toArray⟩) hc ?_ rfl (.pv (.c1C (by simp)))
   simp only [List.length_map]
   unfold convert
   simp only [Sem.run_bind,i5 hs,i5 hd,Result.andThen_ok]
   simp only [i5 he,Result.andThen_ok]
   unfold Conv.bytesToString
   cases p with
   | none=>
     have hr0:rows=[]:=by
      rcases rows with _ | ⟨r,rs⟩
      ·rfl
      ·obtain ⟨a,ha,_⟩:=hp (by simp);cases ha
     subst hr0
     simp only [R8] at hb;cases hb
     rfl
   | some a=>
     simp only [Builtin.firstCells,Nat.mul_one] at hfc
     simp only [Sem.run_bind,hfc,Result.andThen_ok]
     rw [← Array.forIn_toList]
     have:=b8n (P:=P) hb cs.toList (by simpa using hcs) hcells []
     simp only [List.nil_append] at this
     have h0:ByteArray.empty=ByteArray.mk ([]:List UInt8).toArray:=rfl
     rw [h0]
     refine (congrArg (fun r:Result ByteArray=>(r.andThen fun a w'=>Sem.run P (pure (Value.string a)) w').andThen fun a w'=>Sem.run P (pure (Next.value a)) w') this).trans ?_
     rfl
  ·cases h
 ·cases h
end
end Go.Ab
namespace Go.Ab
open Go.RowKit
section
variable {P:Program} {B:Nat} {w0:World} {I0:v9} {w w':World} {I:v9} {ι:Nat→Option Nat} {σ:b7} {D:Nat→Prop} {nm:Nat} {ρ:Operand→Value} {ev:RA→AV} {e:l7}
theorem b6q (a b:List UInt8):((ByteArray.mk a.toArray)==(ByteArray.mk b.toArray))=(a==b):=by rw [beq_toListBytes,a9n]
theorem findNow_spec (k:List UInt8) (ents:List (List UInt8 × AV)):∀ (es:List MapEntry) (i:Nat),
 (∀ e ∈ es,∃ k v,e.key= .string ⟨k.toArray⟩∧m9 k ents=some v∧e8 w I ι σ D e.val v)→
 ((∀ e ∈ es,e.key≠ .string ⟨k.toArray⟩)∧Instr.findNow .string (.string ⟨k.toArray⟩) es i=some none)∨
 ∃ j x v,Instr.findNow .string (.string ⟨k.toArray⟩) es i=some (some (j,x))∧m9 k ents=some v∧e8 w I ι σ D x v
 | [],i,_=>.inl ⟨fun e he=>by simp at he,by simp [Instr.findNow]⟩
 | e::es,i,h=>by
   obtain ⟨a,v,h1,h2,h3⟩:=h e (by simp)
   have hs:Instr.sameNow .string (.string ⟨k.toArray⟩) e.key=some (k==a):=by rw [h1];simp only [Instr.sameNow,b6q]
   by_cases hk:k=a
   ·subst hk
    exact .inr ⟨i,e.val,v,by simp [Instr.findNow,hs],h2,h3⟩
   ·have h4:(k==a)=false:=by simpa using hk
    rcases findNow_spec k ents es (i+1) (fun e he=>h e (by simp [he])) with ⟨g1,g2⟩ | ⟨j,x,v',g1,g2,g3⟩
    ·refine .inl ⟨fun e' he'=>?_,by simp only [Instr.findNow,hs,h4];exact g2⟩
     rcases List.mem_cons.1 he' with rfl | he'
     ·rw [h1]
      intro heq
      have:k.toArray=a.toArray:=by injection heq with heq;injection heq with heq;exact heq.symm
      exact hk (by simpa using congrArg Array.toList this)
     ·exact g1 e' he'
    ·exact .inr ⟨j,x,v',by simp only [Instr.findNow,hs,h4];exact g1,g2,g3⟩
theorem a8S {k:List UInt8} {ents:List (List UInt8 × AV)} {es:List MapEntry} {i:Nat} (h:∀ e ∈ es,∃ k v,e.key= .string ⟨k.toArray⟩∧m9 k ents=some v∧e8 w I ι σ D e.val v) (hl:m9 k ents=none):Instr.findNow .string (.string ⟨k.toArray⟩) es i=some none:=by
 rcases findNow_spec k ents es i h with ⟨_,g⟩ | ⟨_,_,_,_,g,_⟩
 ·exact g
 ·rw [hl] at g;cases g
theorem b4m {k:List UInt8} {ents:List (List UInt8 × AV)} {es:List MapEntry} {i:Nat} {v:AV} (h:∀ e ∈ es,∃ k v,e.key= .string ⟨k.toArray⟩∧m9 k ents=some v∧e8 w I ι σ D e.val v)
 (h':∀ k v,m9 k ents=some v→∃ e ∈ es,e.key= .string ⟨k.toArray⟩) (hl:m9 k ents=some v):∃ j x,Instr.findNow .string (.string ⟨k.toArray⟩) es i=some (some (j,x))∧e8 w I ι σ D x v:=by
 rcases findNow_spec k ents es i h with ⟨g,_⟩ | ⟨j,x,v',g1,g2,g3⟩
 ·obtain ⟨e,he,hk⟩:=h' k v hl;exact absurd hk (g e he)
 ·rw [hl] at g2;cases g2;exact ⟨j,x,g1,g3⟩
theorem run_checkKey {em:Bool} {kt:Nat} (hk:P.underlying kt=some .string) (n:Nat) (s:ByteArray) (w:World):(Instr.checkKey em (n+1) kt (.string s)).run P w= .ok () w:=by
 simp only [Instr.checkKey,Sem.run_bind,i5 hk,Result.andThen_ok];rfl
def a8N (P:Program) (t:Nat) (a:AV):Bool:=match P.info? t with
 | some i=>(match i.zero with | some z=>b0F z a | none=>false)
 | none=>false
theorem b9b {t:Nat} {a:AV} (h:a8N P t a=true) (w:World):∃ z,(zeroValue t).run P w= .ok z w∧b0F z a=true:=by
 unfold a8N at h
 split at h
 ·rename_i i hi
  split at h
  ·rename_i z hz
   exact ⟨z,by simp [zeroValue,typeInfo,hi,hz],h⟩
  ·cases h
 ·cases h
variable (hc:Core B w0 I0 w I ι σ D) (hev:∀ o r,i7 o r=true→e8 w I ι σ D (ρ o) (ev r))
include hc hev
omit hev in
theorem b7M {b:Nat} {ents:List (List UInt8 × AV)} {v:Value} (hf:find σ b=some (.map ents)) (hv:e8 w I ι σ D v (.a0u b)):
 ∃ (r:Nat) (es:Array MapEntry) (clock:Nat),v= .map (some r)∧ι b=some r∧w.heap[r]?=some (Obj.map es clock)∧
   (∀ e ∈ es.toList,∃ k v,e.key= .string ⟨k.toArray⟩∧m9 k ents=some v∧e8 w I ι σ D e.val v)∧∀ k v,m9 k ents=some v→∃ e ∈ es.toList,e.key= .string ⟨k.toArray⟩:=by
 cases hv with
 | a0u hD hone hv=>
   obtain ⟨r,hr,rfl⟩:=hv _ hf
   obtain ⟨r',es,cl,k1,k2,k3,k4⟩:=hc.u6.obj b _ hf
   rw [hr] at k1;cases k1
   exact ⟨r,es,cl,rfl,hr,k2,k3,k4⟩
theorem b7a {t kt et:Nat} {m k:Operand} {m' k':RA} {zero:AV} (ht:P.underlying t=some (.map kt et)) (hk:P.underlying kt=some .string) (hz:a8N P et zero=true) (h1:i7 m m'=true) (h2:i7 k k'=true)
 (h:step σ nm ev (.lookup m' k' zero)=some e):Good P B w0 I0 w I ι σ D nm e (do pure (.value (← Instr.lookup t (ρ m) (ρ k) true))):=by
 simp only [step] at h
 split at h
 ·rename_i b s hb hs
  split at h
  ·rename_i ents hf
   have hm:=hev _ _ h1
   rw [hb] at hm
   obtain ⟨r,es,cl,em,hr,hheap,hent,hall⟩:=b7M hc hf hm
   have hkey:=a5P hev h2 hs
   obtain ⟨z,hzr,hzc⟩:=b9b hz w
   have hzv:e8 w I ι σ D z zero:=a9S hzc
   have hget:(getObj r).run P w= .ok (.map es cl) w:=by simp [getObj,Sem.run,hheap]
   have hchk:(Instr.checkKey es.isEmpty 10000 kt (.string ⟨s.toArray⟩)).run P w= .ok () w:=by
    exact run_checkKey hk 9999 _ w
   cases hl:m9 s ents with
   | none=>
     have hfn:=a8S (k:=s) (i:=0) hent hl
     simp only [hl] at h;cases h
     refine f0 (v:=.tuple #[z,.bool false]) hc ?_ rfl ?_
     ·rw [em,hkey]
      simp [Instr.lookup,i5 ht,hget,hchk,Instr.findKey,i5 hk,hfn,hzr]
     ·refine .o0 rfl fun j x q hx hq=>?_
      match j with
      | 0=>simp at hx hq;subst hx;subst hq;exact hzv
      | 1=>simp at hx hq;subst hx;subst hq;exact .pv (.bool _)
      | j+2=>simp at hq
   | some v=>
     obtain ⟨j0,x0,hfn,hrep⟩:=b4m (k:=s) (i:=0) hent hall hl
     simp only [hl] at h;cases h
     refine f0 (v:=.tuple #[x0,.bool true]) hc ?_ rfl ?_
     ·rw [em,hkey]
      simp [Instr.lookup,i5 ht,hget,hchk,Instr.findKey,i5 hk,hfn]
     ·refine .o0 rfl fun j x q hx hq=>?_
      match j with
      | 0=>simp at hx hq;subst hx;subst hq;exact hrep
      | 1=>simp at hx hq;subst hx;subst hq;exact .pv (.bool _)
      | j+2=>simp at hq
  ·cases h
 ·cases h
theorem b6Z {t kt et:Nat} {m k x:Operand} {m' k' x':RA} (ht:P.underlying t=some (.map kt et)) (hk:P.underlying kt=some .string) (h1:i7 m m'=true) (h2:i7 k k'=true) (h3:i7 x x'=true)
 (h:step σ nm ev (.insert m' k' x')=some e):Good P B w0 I0 w I ι σ D nm e (do Instr.mapUpdate t (ρ m) (ρ k) (ρ x);pure .skip):=by
 simp only [step] at h
 split at h
 ·rename_i b s hb hs
  split at h
  ·rename_i ents hf
   split at h
   ·rename_i hl
    cases h
    have hm:=hev _ _ h1
    rw [hb] at hm
    obtain ⟨r,es,cl,em,hr,hheap,hent,hall⟩:=b7M hc hf hm
    have hkey:=a5P hev h2 hs
    have hfn:=a8S (k:=s) (i:=0) hent hl
    have hlt:r<w.heap.size:=(Array.getElem?_eq_some_iff.1 hheap).1
    have hget:(getObj r).run P w= .ok (.map es cl) w:=by simp [getObj,Sem.run,hheap]
    have hset:∀ o,(setObj r o).run P w= .ok () {w with heap:=w.heap.setIfInBounds r o}:=fun o=>by simp [setObj,Sem.run,hheap]
    have hchk:(Instr.checkKey false 10000 kt (.string ⟨s.toArray⟩)).run P w= .ok () w:=by
     exact run_checkKey hk 9999 _ w
    let w':World:={w with heap:=w.heap.setIfInBounds r (.map (es.push {key:=.string ⟨s.toArray⟩,val:=ρ x,born:=cl}) (cl+1))}
    have ho:∀ k,k≠r→w'.heap[k]?=w.heap[k]?:=fun k hk=>by
     show (w.heap.setIfInBounds r _)[k]?=_
     rw [Array.getElem?_setIfInBounds_ne (Ne.symm hk)]
    have hgB:B≤r:=hc.u6.ge b _ r hf hr
    have hbel:Below B w0 w':=⟨hc.below.os,hc.below.tape,hc.below.output,by show _≤(w.heap.setIfInBounds r _).size;rw [Array.size_setIfInBounds];exact hc.below.size,fun k hk=>(ho k (by omega)).trans (hc.below.block k hk)⟩
    obtain ⟨hS,hL⟩:=hc.u6.c4M (w':=w') (e:={key:=.string ⟨s.toArray⟩,val:=ρ x,born:=cl}) hf hr hheap hl rfl (hev _ _ h3) (by show (w.heap.setIfInBounds r _)[r]?=_;simp [hlt]) (by show (w.heap.setIfInBounds r _).size=_;simp) ho
    refine ⟨.skip,undef,w',?_,.inr ⟨rfl,rfl⟩,I,ι,D,⟨hS,hbel,hc.hB,hc.ext,hc.old⟩,hL,.undef _,fun _ h=>.inl h⟩
    rw [em,hkey]
    simp [Instr.mapUpdate,i5 ht,hget,hchk,Instr.findKey,i5 hk,hfn,hset,w']
   ·cases h
  ·cases h
 ·cases h
end
end Go.Ab
namespace Go.Ab
open Go.RowKit
section
variable {P:Program} {B:Nat} {w0:World} {I0:v9} {w w':World} {I:v9} {ι:Nat→Option Nat} {σ:b7} {D:Nat→Prop} {nm:Nat} {ρ:Operand→Value} {ev:RA→AV} {e:l7}
theorem b5O {α:Type} (a:Array α) (x:α) (f:α→α):(a.push x).modify a.size f=a.push (f x):=by
 apply Array.ext_getElem?
 intro i
 rw [Array.getElem?_modify,Array.getElem?_push,Array.getElem?_push]
 by_cases h:i=a.size
 ·subst h;simp
 ·rw [if_neg (fun e=>h e.symm),if_neg h,if_neg h]
variable (hc:Core B w0 I0 w I ι σ D) (hn:¬ D nm) (hev:∀ o r,i7 o r=true→e8 w I ι σ D (ρ o) (ev r))
include hc hn hev
theorem c2W {sT dT el:Nat} {x:Operand} {y:RA} (hs:P.underlying sT=some .string) (hd:P.underlying dT=some (.slice el)) (he:P.underlying el=some (.int .u8)) (h1:i7 x y=true) (h:step σ nm ev (.s2b y)=some e):
 Good P B w0 I0 w I ι σ D nm e (do pure (.value (← convert sT dT (ρ x)))):=by
 simp only [step] at h
 split at h
 ·rename_i s hb
  cases h
  let q:Question:=.appendCap s.length 0 el
  let cap:=q.cut (w.tape w.drawn q)
  have hq:q.forced=false:=rfl
  have hcap:s.length≤cap:=by show s.length≤s.length+_;omega
  let c:Array Value:=(s.toArray.map fun b=>Value.int .u8 b.toNat)++Array.replicate (cap - s.length) (.int .u8 0)
  have hcs:c.size=cap:=by simp [c];omega
  let w':World:={({w with drawn:=w.drawn+1}:World) with heap:=w.heap.push (Obj.cells c el (cap,cap+1))}
  have hrun:(convert sT dT (ρ x)).run P w= .ok (.slice (some ⟨w.heap.size,0,none⟩) s.length cap) w':=by
   rw [a5P hev h1 hb]
   have hch:(choose (.appendCap s.length 0 el)).run P w= .ok cap {w with drawn:=w.drawn+1}:=by
    rw [run_choose];simp [hq,q,cap]
   unfold convert
   simp only [Sem.run_bind,i5 hs,i5 hd,Result.andThen_ok,i5 he]
   unfold Conv.stringToBytes
   simp only [Sem.run_bind,a9B,hch,Result.andThen_ok,newRow,run_newObj,Sem.run_pure,markStringish,run_shape]
   have hsh:World.shape? {({w with drawn:=w.drawn+1}:World) with heap:=w.heap.push (Obj.cells c el)} w.heap.size=some (el,cap):=by
    simp [World.shape?,hcs]
   have hfr:World.freeze {({w with drawn:=w.drawn+1}:World) with heap:=w.heap.push (Obj.cells c el)} {block:=w.heap.size,off:=cap} 1=w':=by
    unfold World.freeze
    rw [if_neg (by omega)]
    simp only [w',b5O]
    simp
   have hsh':=hsh
   simp only [c] at hsh hfr
   rw [hsh]
   simp only [run_freeze,Result.andThen_ok]
   rw [hfr]
  refine a4R (w':=w') (v:=.slice (some ⟨w.heap.size,0,none⟩) s.length cap) (c:=c) (T:=el) (fz:=(cap,cap+1)) hc hn (by simp [hrun]) rfl ?_ (.inl (by rw [hcs];exact Nat.le_refl _)) rfl ?_ ?_ rfl ?_
  ·have:=(Below.drew hc.below).alloc (Nat.le_trans hc.hB hc.below.size) (Obj.cells c el (cap,cap+1))
   exact this
  ·simp only [d9.len,d9.es,List.length_map,hcs];omega
  ·intro i row hr
   simp only [d9.row?,List.getElem?_map,d9.es] at hr ⊢
   cases hsi:s[i]? with
   | none=>rw [hsi] at hr;simp at hr
   | some b=>
     rw [hsi] at hr;simp at hr;subst hr
     refine ⟨rfl,fun j v hv=>?_⟩
     match j,hv with
     | 0,hv=>
       simp at hv;subst hv
       have hi:i<s.length:=(List.getElem?_eq_some_iff.1 hsi).1
       refine ⟨.int .u8 b.toNat,?_,rfl,.pv (.int _ _)⟩
       show c[i*1+0]?=_
       rw [Nat.mul_one,Nat.add_zero,Array.getElem?_append_left (by simp;exact hi)]
       simp [hsi]
  ·refine a3v (c:=c) (T:=el) (fz:=(cap,cap+1)) (.inr rfl) (by simp [l5]) (by show (w.heap.push _)[w.heap.size]?=_;simp) (by simp [d9.len]) hcap (by simp only [d9.es,Nat.mul_one,hcs];exact Nat.le_refl _)
 ·cases h
omit hn in
theorem c1e {dT sT el es ty:Nat} {x y:Operand} {x' y':RA} (ht:P.underlying dT=some (.slice el)) (hs:n7 P el es=true) (h1:i7 x x'=true) (h2:i7 y y'=true) (h:step σ nm ev (.copy es x' y')=some e):
 Good P B w0 I0 w I ι σ D nm e (do pure (.value (← Builtin.copy_ #[dT,sT] ty #[ρ x,ρ y]))):=by
 simp only [step] at h
 have hx:=hev _ _ h1
 split at h
 ·rename_i b i n hb
  split at h
  ·rename_i es' rows hf
   split at h
   ·rename_i hee
    subst hee
    split at h
    ·rename_i xs rd hr
     split at h
     ·rename_i hin
      cases h
      have hsh:=a1a hc.u6 hr (hev _ _ h2)
      obtain ⟨p,cap,hv,hcap,hw,hp⟩:=hsh
      rw [hb] at hx
      generalize ρ x=X at hx
      cases hx with
      | own hD hone hx=>
        obtain ⟨pd,capd,rfl,hlen,hcapd,hcase⟩:=hx _ hf
        let k:=min xs.length n
        have hshk:a1U w I ι σ D es' (.slice p k cap) ((xs.take k).map (·.map .pv)):=by
         refine ⟨p,cap,by simp [k],by simp at hcap ⊢;omega,fun i' row hr'=>?_,fun hne=>?_⟩
         ·have hi':i'<k:=by have:=(List.getElem?_eq_some_iff.1 hr').1;simp at this;omega
          rw [List.getElem?_map,List.getElem?_take_of_lt hi',← List.getElem?_map] at hr'
          exact hw i' row hr'
         ·obtain ⟨a,ha,hsp,hcell⟩:=hp (by intro e;have h0:xs=[]:=(by simpa using e);subst h0;simp at hne)
          refine ⟨a,ha,hsp,fun i' j row q hr' hq=>?_⟩
          have hi':i'<k:=by have:=(List.getElem?_eq_some_iff.1 hr').1;simp at this;omega
          rw [List.getElem?_map,List.getElem?_take_of_lt hi',← List.getElem?_map] at hr'
          exact hcell i' j row q hr' hq
        obtain ⟨cs,hfc,hcs,hg⟩:=u5 (P:=P) hshk
        have hkl:((xs.take k).map (·.map AV.pv)).length=k:=by simp [k]
        rw [hkl] at hfc hcs
        have hwk:∀ (i':Nat) (row:List AV),((xs.take k).map (·.map AV.pv))[i']?=some row→row.length=es':=by obtain ⟨_,_,_,_,h,_⟩:=hshk;exact h
        have hfc':(Builtin.firstCells es' k (.slice p xs.length cap)).run P w= .ok cs w:=by
         cases p <;>exact hfc
        have hrun:∀ (w₁:World),(match pd with | some a=>storeCells a cs.toList | none=>pure ()).run P w= .ok () w₁→
         (do pure (.value (← Builtin.copy_ #[dT,sT] ty #[.slice pd n capd,ρ y])):Sem Next).run P w= .ok (.value (.int .i64 k)) w₁:=by
         intro w₁ hst
         rw [hv]
         unfold Builtin.copy_
         have hk':Nat.min xs.length n=k:=rfl
         simp only [List.length_map,List.getElem?_toArray,List.getElem?_cons_zero,List.getElem?_cons_succ,Sem.run_bind,i5 ht,Result.andThen_ok,Builtin.lenOf,Sem.run_pure,x8 hs,hk',hfc']
         cases pd with
         | none=>simp at hst;subst hst;simp [goInt]
         | some a=>simp only at hst;simp [hst,goInt]
        have hobj:=hc.u6.obj b _ hf
        rcases hcase with ⟨h0,_⟩ | ⟨r,c,T,fz,hr',rfl,hheap,hsz⟩
        ·
         have hk0:k=0:=by simp [k,h0]
         have hcs0:cs=#[]:=Array.eq_empty_of_size_eq_zero (by rw [hcs,hk0];simp)
         have hr2:=hrun w (by subst hcs0;cases pd <;>simp [storeCells])
         have hrows:rows.take i++xs.take (min xs.length n)++rows.drop (i+min xs.length n)=rows:=by
          have:min xs.length n=0:=hk0
          rw [this];simp
         rw [hrows]
         have hfe:=b2P hf
         refine ⟨_,_,w,hr2,.inl rfl,I,ι,D,?_,?_,.pv (.int _ _),fun _ h=>.inl h⟩
         ·simp only [m0]
          exact ⟨⟨hc.u6.bnd,fun b o=>by rw [hfe];exact hc.u6.dom b o,fun b b' o o' r=>by rw [hfe];exact hc.u6.inj b b' o o' r,fun b o r=>by rw [hfe];exact hc.u6.ge b o r,fun b o r k=>by rw [hfe];exact hc.u6.sep b o r k,
           fun b o h=>by rw [hfe] at h;exact (hc.u6.obj b o h).mono ⟨⟨fun _ _ _ hi hx=>⟨hx,hi⟩,fun _ h=>h,fun _ o' _ ho=>⟨o',by rw [← hfe];exact ho,rfl,rfl,rfl⟩,fun _ c _ fz hr=>⟨c,fz,hr,rfl⟩,fun _ _=>rfl⟩,fun _ _ _ h=>h⟩ rfl fun _ _=>rfl⟩,hc.below,hc.hB,hc.ext,hc.old⟩
         ·simp only [m0]
          exact ⟨⟨fun _ _ _ hi hx=>⟨hx,hi⟩,fun _ h=>h,fun _ o' _ ho=>⟨o',by rw [← hfe];exact ho,rfl,rfl,rfl⟩,fun _ c _ fz hr=>⟨c,fz,hr,rfl⟩,fun _ _=>rfl⟩,fun _ _ _ h=>h⟩
        ·rcases hobj with ⟨h1,_⟩ | ⟨r',c',T',fz',k1,k2,k3,k4,k5⟩
         ·rw [hr'] at h1;cases h1
         rw [hr'] at k1;cases k1
         rw [hheap] at k2;cases k2
         simp only [d9.len,d9.es] at k4 hlen hsz k5
         have hcl:cs.toList.length=k*es':=by simpa using hcs
         have hkn:k≤n:=Nat.min_le_right _ _
         have hfit:i*es'+0+cs.toList.length≤c.size:=by
          have h1:(i+k)*es'≤rows.length*es':=Nat.mul_le_mul_right _ (by omega)
          rw [Nat.add_mul] at h1;omega
         have hgB:B≤r:=hc.u6.ge b _ r hf hr'
         obtain ⟨w',c',s1,s2,s3,s4,s5,s6⟩:=G9 (P:=P) r (i*es') cs.toList 0 c T fz w hheap k3 hfit (b1l (by rw [hkl];exact hcs) hwk hg) hgB hc.below
         simp only [Nat.add_zero] at s3
         have hr2:=hrun w' (by simpa [d9.es] using s1)
         have hkx:k≤xs.length:=Nat.min_le_left _ _
         have hlen':(rows.take i++xs.take k++rows.drop (i+k)).length=rows.length:=by simp;omega
         have hget:∀ i',(rows.take i++xs.take k++rows.drop (i+k))[i']?=if i≤i'∧i'<i+k then xs[i' - i]? else rows[i']?:=by
          intro i'
          have hl1:(rows.take i).length=i:=by simp;omega
          have hl2:(xs.take k).length=k:=by simp;omega
          by_cases hlt:i'<i
          ·rw [if_neg (by omega),List.append_assoc,List.getElem?_append_left (by omega),List.getElem?_take_of_lt hlt]
          ·by_cases hlt2:i'<i+k
           ·rw [if_pos ⟨by omega,hlt2⟩,List.append_assoc,List.getElem?_append_right (by omega),hl1,List.getElem?_append_left (by omega),List.getElem?_take_of_lt (by omega)]
           ·rw [if_neg (by omega),List.getElem?_append_right (by simp;omega),List.getElem?_drop]
            congr 1;simp;omega
         obtain ⟨hS,hL⟩:=hc.u6.write (o':=.arr es' (rows.take i++xs.take k++rows.drop (i+k)) false) (c':=c') (w':=w') hf hr' rfl rfl rfl hlen' k3 k4 hheap s2 s3.1 s5 s4 (fun i' row hrw=>by
          simp only [d9.row?,d9.es] at hrw ⊢
          split at hrw
          ·rename_i pr hpr
           cases hrw
           rw [hget] at hpr
           by_cases hin':i≤i'∧i'<i+k
           ·rw [if_pos hin'] at hpr
            have hpr':((xs.take k).map (·.map AV.pv))[i' - i]?=some (pr.map AV.pv):=by
             rw [List.getElem?_map,List.getElem?_take_of_lt (by omega),hpr];rfl
            refine ⟨hwk _ _ hpr',fun j v hv=>?_⟩
            obtain ⟨x,hx',hrep⟩:=hg (i' - i) j _ v hpr' hv
            refine ⟨x,?_,hrep⟩
            have e1:i'*es'+j=i*es'+((i' - i)*es'+j):=by
             have:i'=i+(i' - i):=by omega
             conv=>lhs;rw [this,Nat.add_mul]
             omega
            have hlt:=(Array.getElem?_eq_some_iff.1 hx').1
            rw [s3.2,e1,if_pos ⟨by omega,by rw [hcl,← hcs];omega⟩,Nat.add_sub_cancel_left]
            simpa using hx'
           ·rw [if_neg hin'] at hpr
            obtain ⟨q1,q2⟩:=k5 i' (pr.map .pv) (by simp [d9.row?,hpr])
            refine ⟨q1,fun j v hv=>?_⟩
            obtain ⟨x,hx',hrep⟩:=q2 j v hv
            have hj:j<es':=by rw [← q1];exact (List.getElem?_eq_some_iff.1 hv).1
            refine ⟨x,?_,hrep⟩
            rw [s3.2,if_neg];exact hx'
            rw [hcl]
            rintro ⟨g1,g2⟩
            rcases Nat.lt_or_ge i' i with hlt | hge
            ·have:(i'+1)*es'≤i*es':=Nat.mul_le_mul_right _ hlt
             rw [Nat.add_mul,Nat.one_mul] at this;omega
            ·have:(i+k)*es'≤i'*es':=Nat.mul_le_mul_right _ (by omega)
             rw [Nat.add_mul] at this;omega
          ·cases hrw)
         exact ⟨_,_,w',hr2,.inl rfl,I,ι,D,⟨hS,s6,hc.hB,hc.ext,hc.old⟩,hL,.pv (.int _ _),fun _ h=>.inl h⟩
     ·cases h
    ·cases h
   ·cases h
  ·cases h
 ·cases h
omit hn in
theorem b9g {t el es ty:Nat} {zero:List PV} {x:Operand} {x':RA} (ht:P.underlying t=some (.slice el)) (hs:n7 P el es=true) (hz:Z0 P el (zero.map .pv)=true) (hall:v5 (zero.map .pv)=true) (h1:i7 x x'=true)
 (h:step σ nm ev (.clear es zero x')=some e):Good P B w0 I0 w I ι σ D nm e (do pure (.value (← Builtin.clear_ #[t] ty #[ρ x]))):=by
 simp only [step] at h
 have hx:=hev _ _ h1
 split at h
 ·rename_i b i n hb
  split at h
  ·rename_i es' rows hf
   split at h
   ·rename_i hle
    obtain ⟨rfl,hin,hpos,hzl⟩:=hle
    cases h
    rw [hb] at hx
    generalize ρ x=X at hx
    cases hx with
    | own hD hone hx=>
      obtain ⟨p,cap,rfl,hlen,⟨hcap,hend⟩,hcase⟩:=hx _ hf
      simp only [d9.len,d9.es] at hlen hend hcase
      obtain ⟨z,hzr,hzc⟩:=a5e hz w
      have hzcr:=a1Y (w:=w) (I:=I) (ι:=ι) (σ:=σ) (D:=D) hzc
      have hzs:z.cells.size=es':=by have:=hzcr.1;simp at this;omega
      have hz0:=b0w (w:=w) (I:=I) (ι:=ι) (σ:=σ) (D:=D) (zero:=z.cells) (zeros:=zero.map .pv) (n:=n) (es:=es') (fun _=>hzcr) (by simp [hzl])
      let cs:Array Value:=Builtin.zeroCells z.cells n
      have hcse:cs=(Array.range (n*es')).map (z.cells[·% z.cells.size]!):=by show Builtin.zeroCells z.cells n=_;unfold Builtin.zeroCells;rw [hzs]
      let xs:List (List PV):=List.replicate n zero
      have hxl:xs.length=n:=by simp [xs]
      have hcs:cs.size=(xs.map (·.map AV.pv)).length*es':=by rw [hcse];simp [xs]
      have hrowe:∀ (i':Nat) (row:List AV),(xs.map (·.map AV.pv))[i']?=some row→row=zero.map .pv∧i'<n:=by
       intro i' row hr
       have hi':i'<n:=by have:=(List.getElem?_eq_some_iff.1 hr).1;simpa [xs] using this
       simp only [xs,List.map_replicate,List.getElem?_replicate_of_lt hi',Option.some.injEq] at hr
       exact ⟨hr.symm,hi'⟩
      have hwx:∀ (i':Nat) (row:List AV),(xs.map (·.map AV.pv))[i']?=some row→row.length=es':=by
       intro i' row hr
       rw [(hrowe i' row hr).1];simp [hzl]
      have hg:∀ (i' j:Nat) (row:List AV) (q:AV),(xs.map (·.map AV.pv))[i']?=some row→row[j]?=some q→∃ x,cs[i'*es'+j]?=some x∧a6k w I ι σ D x q:=by
       intro i' j row q hr hq
       obtain ⟨rfl,hi'⟩:=hrowe i' row hr
       have hj:j<es':=by have:=(List.getElem?_eq_some_iff.1 hq).1;simpa [hzl] using this
       have hb2:i'*es'+es'≤n*es':=by
        calc i'*es'+es'=(i'+1)*es':=by rw [Nat.add_mul,Nat.one_mul]
         _≤n*es':=Nat.mul_le_mul_right _ hi'
       have hlt:i'*es'+j<cs.size:=by rw [hcs,List.length_map,hxl];omega
       have hrp:=hz0.2 (i'*es'+j) (cs[i'*es'+j]) q (by rw [← hcse];exact Array.getElem?_eq_getElem hlt) (by
        rw [flat_get _ n _ (by simp [hzl];omega)]
        simp only [List.length_map,hzl]
        rw [Nat.mul_comm i' es',Nat.mul_add_mod,Nat.mod_eq_of_lt hj]
        exact hq)
       exact ⟨_,Array.getElem?_eq_getElem hlt,hrp.a7f (a1G hall q (List.mem_of_getElem? hq)),hrp⟩
      rcases hcase with ⟨h0,_⟩ | ⟨r,c,T,fz,hr,rfl,hheap,hsz⟩
      ·omega
      rcases hc.u6.obj b _ hf with ⟨h1,_⟩ | ⟨r',c',T',fz',k1,k2,k3,k4,k5⟩
      ·rw [hr] at h1;cases h1
      rw [hr] at k1;cases k1
      rw [hheap] at k2;cases k2
      simp only [d9.len,d9.es] at k4 k5
      rw [List.length_map,hxl] at hcs
      have hcl:cs.toList.length=n*es':=by simpa using hcs
      have hfit:i*es'+0+cs.toList.length≤c.size:=by
       have h1:(i+n)*es'≤rows.length*es':=Nat.mul_le_mul_right _ hin
       rw [Nat.add_mul] at h1;omega
      have hgB:B≤r:=hc.u6.ge b _ r hf hr
      obtain ⟨w',c',s1,s2,s3,s4,s5,s6⟩:=G9 (P:=P) r (i*es') cs.toList 0 c T fz w hheap k3 hfit (b1l (by rw [List.length_map,hxl];exact hcs) hwx hg) hgB hc.below
      simp only [Nat.add_zero] at s3
      have hrun:(do pure (.value (← Builtin.clear_ #[t] ty #[.slice (some ⟨r,i*es',none⟩) n cap])):Sem Next).run P w= .ok (.value (.tuple #[])) w':=by
       unfold Builtin.clear_
       obtain ⟨n',rfl⟩:∃ n',n=n'+1:=⟨n - 1,by omega⟩
       have s1':(storeCells ⟨r,i*es',none⟩ (Builtin.zeroCells z.cells (n'+1)).toList).run P w= .ok () w':=by simpa using s1
       simp [i5 ht,hzr,s1']
      have hget:∀ i',(rows.take i++xs++rows.drop (i+n))[i']?=if i≤i'∧i'<i+n then xs[i' - i]? else rows[i']?:=by
       intro i'
       have hl1:(rows.take i).length=i:=by simp;omega
       by_cases hlt:i'<i
       ·rw [if_neg (by omega),List.append_assoc,List.getElem?_append_left (by omega),List.getElem?_take_of_lt hlt]
       ·by_cases hlt2:i'<i+n
        ·rw [if_pos ⟨by omega,hlt2⟩,List.append_assoc,List.getElem?_append_right (by omega),hl1,List.getElem?_append_left (by omega)]
        ·rw [if_neg (by omega),List.getElem?_append_right (by simp [xs];omega),List.getElem?_drop]
         congr 1;simp [xs];omega
      have hlen':(rows.take i++xs++rows.drop (i+n)).length=rows.length:=by simp [xs];omega
      obtain ⟨hS,hL⟩:=hc.u6.write (o':=.arr es' (rows.take i++xs++rows.drop (i+n)) false) (c':=c') (w':=w') hf hr rfl rfl rfl hlen' k3 k4 hheap s2 s3.1 s5 s4 (fun i' row hrw=>by
       simp only [d9.row?,d9.es] at hrw ⊢
       split at hrw
       ·rename_i pr hpr
        cases hrw
        rw [hget] at hpr
        by_cases hin':i≤i'∧i'<i+n
        ·rw [if_pos hin'] at hpr
         have hpr':(xs.map (·.map AV.pv))[i' - i]?=some (pr.map AV.pv):=by
          rw [List.getElem?_map,hpr];rfl
         refine ⟨hwx _ _ hpr',fun j v hv=>?_⟩
         obtain ⟨x,hx',hrep⟩:=hg (i' - i) j _ v hpr' hv
         refine ⟨x,?_,hrep⟩
         have e1:i'*es'+j=i*es'+((i' - i)*es'+j):=by
          have:i'=i+(i' - i):=by omega
          conv=>lhs;rw [this,Nat.add_mul]
          omega
         have hlt:=(Array.getElem?_eq_some_iff.1 hx').1
         rw [s3.2,e1,if_pos ⟨by omega,by rw [hcl,← hcs];omega⟩,Nat.add_sub_cancel_left]
         simpa using hx'
        ·rw [if_neg hin'] at hpr
         obtain ⟨q1,q2⟩:=k5 i' (pr.map .pv) (by simp [d9.row?,hpr])
         refine ⟨q1,fun j v hv=>?_⟩
         obtain ⟨x,hx',hrep⟩:=q2 j v hv
         have hj:j<es':=by rw [← q1];exact (List.getElem?_eq_some_iff.1 hv).1
         refine ⟨x,?_,hrep⟩
         rw [s3.2,if_neg];exact hx'
         rw [hcl]
         rintro ⟨g1,g2⟩
         rcases Nat.lt_or_ge i' i with hlt | hge
         ·have:(i'+1)*es'≤i*es':=Nat.mul_le_mul_right _ hlt
          rw [Nat.add_mul,Nat.one_mul] at this;omega
         ·have:(i+n)*es'≤i'*es':=Nat.mul_le_mul_right _ (by omega)
          rw [Nat.add_mul] at this;omega
       ·cases hrw)
      exact ⟨_,.tuple #[],w',hrun,.inl rfl,I,ι,D,⟨hS,s6,hc.hB,hc.ext,hc.old⟩,hL,.o0 rfl (fun j x q hx=>by simp at hx),fun _ h=>.inl h⟩
   ·cases h
  ·cases h
 ·cases h
omit hn in
theorem b9m {x ix:Operand} {y yi:RA} {t el len es:Nat} (ht:P.underlying t=some (.array len el)) (hs:n7 P el es=true) (h1:i7 x y=true) (h2:i7 ix yi=true)
 (h:step σ nm ev (.a5Z len es y yi)=some e):Good P B w0 I0 w I ι σ D nm e (do pure (.value (← Instr.indexAt t (ρ x) (ρ ix)))):=by
 simp only [step,l7.of] at h
 have hx:=hev _ _ h1
 split at h
 ·rename_i k hk
  obtain ⟨kk,hkk⟩:=a6X hev h2 hk
  split at h
  ·rename_i hle
   have hrun:∀ (a:Addr),(Instr.indexAt t (.pointer (some a)) (ρ ix)).run P w= .ok (.pointer (some (a.add (k.toNat*es)))) w:=by
    intro a
    rw [hkk]
    simp [Instr.indexAt,asIntOf,i5 ht,Instr.sureAddr,hle.1,hle.2,x8 hs]
   split at h
   ·rename_i b i j hb
    split at h
    ·rename_i o ho
     cases h
     rw [hb] at hx
     generalize ρ x=X at hx
     cases hx with
     | ptr hD hone hx=>
       obtain ⟨r,hr,rfl⟩:=hx o ho
       refine f0 (v:=.pointer (some ⟨r,i*o.es+(j+k.toNat*es),none⟩)) hc ?_ rfl ?_
       ·simp only [Sem.run_bind,hrun,Result.andThen_ok,Sem.run_pure,a0w,Nat.add_assoc]
       ·refine .ptr hD rfl fun o' ho'=>?_
        rw [ho] at ho';cases ho'
        exact ⟨r,hr,rfl⟩
    ·cases h
   ·rename_i cs hb
    cases h
    rw [hb] at hx
    generalize ρ x=X at hx
    cases hx with
    | pv hx=>
      cases hx with
      | ref g ha hp hr=>
        rename_i a
        refine f0 (v:=.pointer (some (a.add (k.toNat*es)))) hc (by simp only [Sem.run_bind,hrun,Result.andThen_ok,Sem.run_pure]) rfl ?_
        rw [a2U ha]
        refine .pv (.ref (fun q=>g (k.toNat*es+q)) rfl (fun q hq=>?_) (fun q x hx=>?_))
        ·have:=hp (k.toNat*es+q) (by simp at hq;omega)
         rw [← Nat.add_assoc] at this
         exact this
        ·rw [List.getElem?_drop] at hx
         exact hr _ _ hx
   ·cases h
  ·cases h
 ·cases h
omit hn in
theorem b2F {neq:Bool} {t:Nat} {ps rs:Array Nat} {vv:Bool} {x y:Operand} {x':RA} (ht:P.underlying t=some (.func ps rs vv)) (h1:i7 x x'=true) (hy:ρ y= .nilFunc) (h:step σ nm ev (.a6x neq x')=some e):
 Good P B w0 I0 w I ι σ D nm e (do pure (.value (← (do eqGuard (if neq then .neq else .eql) t x y (ρ x) (ρ y);binOp (if neq then .neq else .eql) t (ρ x) (ρ y))))):=by
 have hx:=hev _ _ h1
 have hfun:∀ (f:Fn) (a b:Array Value),ρ x= .func f a b→(do pure (.value (← (do eqGuard (if neq then .neq else .eql) t x y (ρ x) (ρ y);binOp (if neq then .neq else .eql) t (ρ x) (ρ y)))):Sem Next).run P w= .ok (.value (.bool neq)) w:=by
  intro f a b e
  rw [e,hy]
  have hE:(Op.equal t (.func f a b) .nilFunc).run P w= .ok false w:=by
   have gen:∀ d,(Op.equalIn (d+1) t (.func f a b) .nilFunc).run P w= .ok false w:=by
    intro d
    simp [Op.equalIn,i5 ht]
   exact gen 9999
  cases neq <;>simp [eqGuard,binOp,hE]
 have hnil:ρ x= .nilFunc→(do pure (.value (← (do eqGuard (if neq then .neq else .eql) t x y (ρ x) (ρ y);binOp (if neq then .neq else .eql) t (ρ x) (ρ y)))):Sem Next).run P w= .ok (.value (.bool (!neq))) w:=by
  intro e
  rw [e,hy]
  have hE:(Op.equal t .nilFunc .nilFunc).run P w= .ok true w:=by
   have gen:∀ d,(Op.equalIn (d+1) t .nilFunc .nilFunc).run P w= .ok true w:=by
    intro d
    simp [Op.equalIn,i5 ht]
   exact gen 9999
  cases neq <;>simp [eqGuard,binOp,hE]
 simp only [step,l7.of] at h
 split at h
 ·rename_i f a b hb
  cases h
  rw [hb] at hx
  generalize hX:ρ x=X at hx
  cases hx with
  | func _ _ _ _=>exact hX ▸ f0 hc (hfun _ _ _ hX) rfl (.pv (.bool _))
 ·rename_i f a b hb
  cases h
  rw [hb] at hx
  generalize hX:ρ x=X at hx
  cases hx with
  | pv hx=>
    cases hx with
    | func _ _ _ _=>exact hX ▸ f0 hc (hfun _ _ _ hX) rfl (.pv (.bool _))
 ·rename_i hb
  cases h
  rw [hb] at hx
  generalize hX:ρ x=X at hx
  cases hx with
  | pv hx=>
    cases hx with
    | nilFunc=>exact hX ▸ f0 hc (hnil hX) rfl (.pv (.bool _))
 ·cases h
end
end Go.Ab
namespace Go.Ab
open Go.RowKit
def b1v (P:Program) (t:Nat):Bool:=match P.underlying t with | some (.func _ _ _)=>true | _=>false
def b7J (P:Program) (t len es:Nat):Bool:=match P.underlying t with | some (.array n el)=>n==len&&n7 P el es | _=>false
def b8D (P:Program) (t:Nat):Option Nat:=match P.underlying t with | some (.slice el)=>some el | _=>none
def isStr (P:Program) (t:Nat):Bool:=match P.underlying t with | some .string=>true | _=>false
def b1t (P:Program) (t:Nat):Bool:=match P.underlying t with | some .bool=>true | _=>false
def c5I (P:Program) (t:Nat):Bool:=match P.underlying t with | some (.int .u8)=>true | _=>false
def b0a (P:Program) (t es:Nat):Bool:=match P.underlying t with | some (.slice el)=>n7 P el es | _=>false
def b1u (P:Program) (t:Nat):Bool:=match P.underlying t with | some (.slice el)=>c5I P el | _=>false
theorem a3P {P:Program} {t es:Nat} (h:b0a P t es=true):∃ el,P.underlying t=some (.slice el)∧n7 P el es=true:=by
 unfold b0a at h;split at h
 ·rename_i el he;exact ⟨el,he,h⟩
 ·cases h
theorem a0e {P:Program} {t:Nat} (h:isStr P t=true):P.underlying t=some .string:=by
 unfold isStr at h;split at h
 ·assumption
 ·cases h
theorem a9a {P:Program} {t:Nat} (h:b1t P t=true):P.underlying t=some .bool:=by
 unfold b1t at h;split at h
 ·assumption
 ·cases h
theorem a9b {P:Program} {t:Nat} (h:b1u P t=true):∃ el,P.underlying t=some (.slice el)∧P.underlying el=some (.int .u8):=by
 unfold b1u at h;split at h
 ·rename_i el he
  refine ⟨el,he,?_⟩
  unfold c5I at h;split at h
  ·assumption
  ·cases h
 ·cases h
def b4f (P:Program) (sT xT es bytes:Nat):Bool:=
 match P.underlying sT,P.underlying xT with
 | some (.slice el),some (.slice _)=>(match P.info? el with
   | some i=>i.size==es&&i.bytes==bytes&&decide (0<bytes)&&(match i.zero with | some z=>z.cells.size==es | none=>false)
   | none=>false)
 | _,_=>false
theorem b4g {P:Program} {sT xT es bytes:Nat} (h:b4f P sT xT es bytes=true):∃ el,b4Y P sT xT el es bytes:=by
 unfold b4f at h
 split at h
 ·rename_i el el' h1 h2
  split at h
  ·rename_i i hi
   simp only [Bool.and_eq_true,beq_iff_eq,decide_eq_true_eq] at h
   obtain ⟨⟨⟨h3,h4⟩,h5⟩,h6⟩:=h
   split at h6
   ·rename_i z hz
    exact ⟨el,h1,⟨el',h2⟩,⟨i,z,hi,h3,h4,hz,by simpa using h6⟩,h5⟩
   ·cases h6
  ·cases h
 ·cases h
def a3h (P:Program) (b:Builtin) (ts:List TypeId) (args:List Operand) (r:ROp):Bool:=
 match b,ts,args,r with
 | .len,[t],[x],.l8 y=>(b8D P t).isSome&&i7 x y
 | .len,[t],[x],.a0m y=>isStr P t&&i7 x y
 | .len,[t],[_],.b8k n=>(match P.underlying t with | some (.array m _)=>m==n | _=>false)
 | .append,[s,t],[x,y],.append es bytes x' y'=>b4f P s t es bytes&&i7 x x'&&i7 y y'
 | .copy,[d,_],[x,y],.copy es x' y'=>b0a P d es&&i7 x x'&&i7 y y'
 | .clear,[t],[x],.clear es z x'=>(match P.underlying t with | some (.slice el)=>n7 P el es&&Z0 P el (z.map .pv) | _=>false)&&v5 (z.map .pv)&&i7 x x'
 | .min,_,xs,.mm false ys=>a1g xs ys
 | .max,_,xs,.mm true ys=>a1g xs ys
 | _,_,_,_=>false
def b4k (P:Program) (t:Nat):Option Nat:=match P.underlying t with
 | some (.map k e)=>if isStr P k then some e else none
 | _=>none
theorem b0E {P:Program} {t e:Nat} (h:b4k P t=some e):∃ k,P.underlying t=some (.map k e)∧P.underlying k=some .string:=by
 unfold b4k at h;split at h
 ·rename_i k e' he
  split at h
  ·rename_i hk;cases h;exact ⟨k,he,a0e hk⟩
  ·cases h
 ·cases h
def b4j (P:Program) (t:Nat) (kinds:List Nat):Bool:=match P.underlying t with
 | some (.struct fs)=>!P.stoodInHeld t&&!P.eqGuardType P.depth t&&a0p P fs.toList kinds 0
 | _=>false
theorem b0D {P:Program} {t:Nat} {ks:List Nat} (h:b4j P t ks=true):∃ fs:Array Field,P.underlying t=some (.struct fs)∧P.stoodInHeld t=false∧P.eqGuardType P.depth t=false∧a0p P fs.toList ks 0=true:=by
 unfold b4j at h;split at h
 ·rename_i fs hf
  simp only [Bool.and_eq_true,Bool.not_eq_true'] at h
  exact ⟨fs,hf,h.1.1,h.1.2,h.2⟩
 ·cases h
def b4i (P:Program) (t:Nat) (kinds:List Nat):Bool:=match P.underlying t with
 | some (.array len el)=>!P.eqGuardType P.depth t&&(match P.info? el with | some i=>i.size==1 | none=>false)&&kindOk P el (kinds.headD 0)&&S8 P el false&&kinds==List.replicate len (kinds.headD 0)
 | _=>false
theorem b0C {P:Program} {t:Nat} {ks:List Nat} (h:b4i P t ks=true):∃ len el k ie,P.underlying t=some (.array len el)∧P.eqGuardType P.depth t=false∧P.info? el=some ie∧ie.size=1∧kindOk P el k=true∧S8 P el false=true∧ks=List.replicate len k:=by
 unfold b4i at h;split at h
 ·rename_i len el hu
  simp only [Bool.and_eq_true,Bool.not_eq_true',beq_iff_eq] at h
  obtain ⟨⟨⟨⟨h1,h2⟩,h3⟩,h4⟩,h5⟩:=h
  split at h2
  ·rename_i i hi
   exact ⟨len,el,_,i,hu,h1,hi,by simpa using h2,h3,h4,h5⟩
  ·cases h2
 ·cases h
def b7v (P:Program) (t es bytes:Nat):Bool:=match P.info? t with | some i=>i.size==es&&i.bytes==bytes | none=>false
def a8M (P:Program) (o:Op) (r:ROp):Bool:=
 match o,r with
 | .move x,.mv y=>i7 x y
 | .assign x,.mv y=>i7 x y
 | .pick c a b,.pick c' a' b'=>i7 c c'&&i7 a a'&&i7 b b'
 | .alloc t,.alloc z=>Z0 P t z
 | .box _ x,.box n y=>n != 0&&i7 x y
 | .load t x,.load g n y=>n7 P t n&&S8 P t g&&i7 x y
 | .store t x y,.store n x' y'=>n7 P t n&&n != 0&&i7 x x'&&i7 y y'
 | .binOp op _ x y _,.bin op' x' y'=>decide (op=op')&&i7 x x'&&i7 y y'
 | .binOp .eql t x y _,.eqb false x' y'=>b1t P t&&i7 x x'&&i7 y y'
 | .binOp .neq t x y _,.eqb true x' y'=>b1t P t&&i7 x x'&&i7 y y'
 | .binOp .eql t x y _,.eqs false ks x' y'=>(b4j P t ks||b4i P t ks)&&i7 x x'&&i7 y y'
 | .binOp .neq t x y _,.eqs true ks x' y'=>(b4j P t ks||b4i P t ks)&&i7 x x'&&i7 y y'
 | .binOp .eql t x (.const (.slice none 0 0)) _,.a9c false x'=>(b8D P t).isSome&&i7 x x'
 | .binOp .neq t x (.const (.slice none 0 0)) _,.a9c true x'=>(b8D P t).isSome&&i7 x x'
 | .binOp .eql t x (.const .nilFunc) _,.a6x false x'=>b1v P t&&i7 x x'
 | .binOp .neq t x (.const .nilFunc) _,.a6x true x'=>b1v P t&&i7 x x'
 | .unOp .not _ x,.not y=>i7 x y
 | .unOp .neg _ x,.neg y=>i7 x y
 | .convert s d x,.conv k y=>(P.underlying s).isSome&&(match P.underlying d with | some (.int k')=>decide (k=k') | _=>false)&&i7 x y
 | .convert s d x,.same y=>(P.underlying s).isSome&&isStr P d&&i7 x y
 | .convert s d x,.s2b y=>isStr P s&&b1u P d&&i7 x y
 | .convert s d x,.b2s y=>b1u P s&&isStr P d&&i7 x y
 | .makeFunc fn a b,.mkf fn' a' b'=>decide (fn=fn')&&a1g a.toList a'&&a1g b.toList b'
 | .makeMap _ none,.b0I=>true
 | .insert t m k v,.insert m' k' v'=>(b4k P t).isSome&&i7 m m'&&i7 k k'&&i7 v v'
 | .lookup t m k true,.lookup m' k' z=>(match b4k P t with | some e=>a8N P e z | none=>false)&&i7 m m'&&i7 k k'
 | .makeSlice t l c,.b3a es by' z x=>(match P.underlying t with | some (.slice el)=>b7v P el es by'&&Z0 P el (z.map .pv) | _=>false)&&v5 (z.map .pv)&&i7 l x&&i7 c x
 | .slice t x lo hi mx,.slice es y lo' hi' mx'=>b0a P t es&&i7 x y&&a7k lo lo'&&a7k hi hi'&&a7k mx mx'&&(hi.isSome||mx.isNone)
 | .slice t x lo hi none,.a4G y lo' hi'=>isStr P t&&i7 x y&&a7k lo lo'&&a7k hi hi'
 | .fieldAddr t x f,.b0 y off=>(match P.underlying t with | some (.struct fs)=>(match fs[f]? with | some fd=>fd.offset==off&&(match P.info? fd.type with | some i=>i.size != 0 | none=>false) | none=>false) | _=>false)&&i7 x y
 | .field t x f,.field g off n y=>(match P.underlying t with | some (.struct fs)=>(match fs[f]? with | some fd=>fd.offset==off&&n7 P fd.type n&&S8 P fd.type g | none=>false) | _=>false)&&i7 x y
 | .indexAddr t x i,.i6 es y j=>b0a P t es&&i7 x y&&i7 i j
 | .indexAddr t x i,.a5Z len es y yi=>b7J P t len es&&i7 x y&&i7 i yi
 | .index t x i,.index g len es y j=>(match P.underlying t with | some (.array n el)=>n==len&&n7 P el es&&S8 P el g | _=>false)&&i7 x y&&i7 i j
 | .index t x i,.a8p y j=>isStr P t&&i7 x y&&i7 i j
 | .extract x i,.extract y j=>i7 x y&&i==j
 | .build t ps,.build z ps'=>Z0 P t z&&b4s P t&&a0M P (placesOf P t) ps.toList ps'
 | .buildSlice t n ps,.G6 es m z ps'=>n==m&&b0a P t es&&(match P.underlying t with | some (.slice el)=>Z0 P el z | _=>false)&&z.length==es&&decide (n*es≤2 ^ 24)&&a0M P (fun i=>some (i*es,es)) ps.toList (ps'.map fun (i,x)=>(i*es,es,x))
 | .call c,r=>(match c.callee with | .builtin b=>a3h P b c.argTypes.toList c.args.toList r | _=>false)
 | _,_=>false
section
variable {P:Program} {B:Nat} {w0:World} {I0:v9} {w:World} {I:v9} {ι:Nat→Option Nat} {σ:b7} {D:Nat→Prop} {nm:Nat} {ρ:Operand→Value} {ev:RA→AV} {e:l7}
theorem execOp_builtin {b:Builtin} {c:Call} {o:Oper} (ho:o.op= .call c) (hb:c.callee= .builtin b):execOp ρ o=builtin b c.argTypes o.type (c.args.map fun | .const _=>true | _=>false) (c.args.map ρ):=by
 obtain ⟨dst,op,type,pos,after,guard⟩:=o
 simp only at ho
 subst ho
 simp only [execOp,resolve,hb]
 rfl
variable (hc:Core B w0 I0 w I ι σ D) (hn:¬ D nm) (hev:∀ o r,i7 o r=true→e8 w I ι σ D (ρ o) (ev r))
include hc hn hev
theorem b2M {b:Builtin} {ts:Array TypeId} {xs:Array Operand} {ty:TypeId} {cs:Array Bool} {r:ROp} (hk:a3h P b ts.toList xs.toList r=true) (h:step σ nm ev r=some e):
 Good P B w0 I0 w I ι σ D nm e (builtin b ts ty cs (xs.map ρ)):=by
 obtain ⟨tl⟩:=ts
 obtain ⟨xl⟩:=xs
 simp only at hk
 have hm:Array.map ρ ⟨xl⟩=⟨xl.map ρ⟩:=by simp
 rw [hm]
 unfold a3h at hk
 split at hk
 ·simp only [Bool.and_eq_true] at hk
  rename_i t x y
  obtain ⟨el,hel⟩:=Option.isSome_iff_exists.1 hk.1
  unfold b8D at hel;split at hel
  ·exact c1l hc hev (by assumption) hk.2 h
  ·cases hel
 ·simp only [Bool.and_eq_true] at hk
  exact b7d hc hev (a0e hk.1) hk.2 h
 ·split at hk
  ·simp at hk;subst hk
   exact c1c hc (by assumption) h
  ·cases hk
 ·simp only [Bool.and_eq_true] at hk
  obtain ⟨el,ht⟩:=b4g hk.1.1
  exact b6Y hc hn hev ht hk.1.2 hk.2 h
 ·simp only [Bool.and_eq_true] at hk
  obtain ⟨el,ht,hs⟩:=a3P hk.1.1
  exact c1e hc hev ht hs hk.1.2 hk.2 h
 ·rename_i es z x'
  simp only [Bool.and_eq_true] at hk
  obtain ⟨⟨h1,h2⟩,h3⟩:=hk
  split at h1
  ·rename_i el ht
   simp only [Bool.and_eq_true] at h1
   exact b9g hc hev ht h1.1 h1.2 h2 h3 h
  ·cases h1
 ·rw [← hm];exact c1h (isMax:=false) (ts:=⟨tl⟩) (ty:=ty) hc hev hk h
 ·rw [← hm];exact c1h (isMax:=true) (ts:=⟨tl⟩) (ty:=ty) hc hev hk h
 ·cases hk
theorem b7g {o:Oper} {r:ROp} (hcn:∀ v,ρ (.const v)=v) (hk:a8M P o.op r=true) (h:step σ nm ev r=some e):Good P B w0 I0 w I ι σ D nm e (execOp ρ o):=by
 obtain ⟨dst,op,type,pos,after,guard⟩:=o
 simp only at hk
 unfold a8M at hk
 split at hk
 ·exact c1i hc hev hk h
 ·exact c1i hc hev hk h
 ·simp only [Bool.and_eq_true] at hk;exact c1j hc hev hk.1.1 hk.1.2 hk.2 h
 ·exact b9e hc hn hk h
 ·simp only [Bool.and_eq_true,bne_iff_ne,ne_eq] at hk;exact c2R hc hn hev hk.1 hk.2 h
 ·simp only [Bool.and_eq_true] at hk;exact c1f hc hev hk.1.1 hk.1.2 hk.2 h
 ·simp only [Bool.and_eq_true,bne_iff_ne,ne_eq] at hk;exact b9o hc hev hk.1.1.1 hk.1.1.2 hk.1.2 hk.2 h
 ·simp only [Bool.and_eq_true,decide_eq_true_eq] at hk;obtain ⟨⟨rfl,h1⟩,h2⟩:=hk;exact c2Q hc hev h1 h2 h
 ·simp only [Bool.and_eq_true] at hk;exact b7X (neq:=false) hc hev (a9a hk.1.1) hk.1.2 hk.2 h
 ·simp only [Bool.and_eq_true] at hk;exact b7X (neq:=true) hc hev (a9a hk.1.1) hk.1.2 hk.2 h
 ·simp only [Bool.and_eq_true,Bool.or_eq_true] at hk
  rcases hk.1.1 with h0 | h0
  ·obtain ⟨fs,a,b,c,d⟩:=b0D h0;exact b7Y (neq:=false) hc hev a b c d hk.1.2 hk.2 h
  ·obtain ⟨len,el,k,ie,a,b,c,d,f,g,rfl⟩:=b0C h0;exact b7W (neq:=false) hc hev a b c d f g hk.1.2 hk.2 h
 ·simp only [Bool.and_eq_true,Bool.or_eq_true] at hk
  rcases hk.1.1 with h0 | h0
  ·obtain ⟨fs,a,b,c,d⟩:=b0D h0;exact b7Y (neq:=true) hc hev a b c d hk.1.2 hk.2 h
  ·obtain ⟨len,el,k,ie,a,b,c,d,f,g,rfl⟩:=b0C h0;exact b7W (neq:=true) hc hev a b c d f g hk.1.2 hk.2 h
 ·simp only [Bool.and_eq_true] at hk
  obtain ⟨el,hel⟩:=Option.isSome_iff_exists.1 hk.1
  unfold b8D at hel;split at hel
  ·exact b3P (neq:=false) hc hev (by assumption) hk.2 (hcn _) h
  ·cases hel
 ·simp only [Bool.and_eq_true] at hk
  obtain ⟨el,hel⟩:=Option.isSome_iff_exists.1 hk.1
  unfold b8D at hel;split at hel
  ·exact b3P (neq:=true) hc hev (by assumption) hk.2 (hcn _) h
  ·cases hel
 ·simp only [Bool.and_eq_true] at hk
  obtain ⟨h1,h2⟩:=hk
  unfold b1v at h1;split at h1
  ·exact b2F (neq:=false) hc hev (by assumption) h2 (hcn _) h
  ·cases h1
 ·simp only [Bool.and_eq_true] at hk
  obtain ⟨h1,h2⟩:=hk
  unfold b1v at h1;split at h1
  ·exact b2F (neq:=true) hc hev (by assumption) h2 (hcn _) h
  ·cases h1
 ·exact c2V hc hev hk h
 ·exact c2U hc hev hk h
 ·simp only [Bool.and_eq_true] at hk
  obtain ⟨⟨h1,h2⟩,h3⟩:=hk
  obtain ⟨ds,hds⟩:=Option.isSome_iff_exists.1 h1
  split at h2
  ·simp only [decide_eq_true_eq] at h2;subst h2;exact c1d hc hev hds (by assumption) h3 h
  ·cases h2
 ·simp only [Bool.and_eq_true] at hk
  obtain ⟨⟨h1,h2⟩,h3⟩:=hk
  obtain ⟨ds,hds⟩:=Option.isSome_iff_exists.1 h1
  exact c1k hc hev hds (a0e h2) h3 h
 ·simp only [Bool.and_eq_true] at hk
  obtain ⟨el,h1,h2⟩:=a9b hk.1.2
  exact c2W hc hn hev (a0e hk.1.1) h1 h2 hk.2 h
 ·simp only [Bool.and_eq_true] at hk
  obtain ⟨el,h1,h2⟩:=a9b hk.1.1
  exact c2P hc hev h1 (a0e hk.1.2) h2 hk.2 h
 ·simp only [Bool.and_eq_true,decide_eq_true_eq] at hk;obtain ⟨⟨rfl,h1⟩,h2⟩:=hk;exact c2T hc hev h1 h2 h
 ·exact b9l hc hn h
 ·simp only [Bool.and_eq_true] at hk
  obtain ⟨⟨⟨h1,h2⟩,h3⟩,h4⟩:=hk
  obtain ⟨et,het⟩:=Option.isSome_iff_exists.1 h1
  obtain ⟨kt,a,b⟩:=b0E het
  exact b6Z hc hev a b h2 h3 h4 h
 ·simp only [Bool.and_eq_true] at hk
  obtain ⟨⟨h1,h2⟩,h3⟩:=hk
  split at h1
  ·rename_i et het
   obtain ⟨kt,a,b⟩:=b0E het
   exact b7a hc hev a b h1 h2 h3 h
  ·cases h1
 ·simp only [Bool.and_eq_true] at hk
  obtain ⟨⟨⟨h1,h2⟩,h3⟩,h4⟩:=hk
  split at h1
  ·rename_i el hel
   simp only [Bool.and_eq_true] at h1
   obtain ⟨h5,h6⟩:=h1
   unfold b7v at h5
   split at h5
   ·rename_i i hi
    simp only [Bool.and_eq_true,beq_iff_eq] at h5
    exact c1g hc hn hev hel hi h5.1 h5.2 h6 h2 h3 h4 h
   ·cases h5
  ·cases h1
 ·simp only [Bool.and_eq_true] at hk
  obtain ⟨⟨⟨⟨⟨h1,h2⟩,h3⟩,h4⟩,h5⟩,h6⟩:=hk
  obtain ⟨el,ht,hs⟩:=a3P h1
  refine b9n hc hev ht hs h2 h3 h4 h5 (fun he=>?_) h
  subst he;simpa using h6
 ·simp only [Bool.and_eq_true] at hk
  exact b7c hc hev (a0e hk.1.1.1) hk.1.1.2 hk.1.2 hk.2 h
 ·simp only [Bool.and_eq_true] at hk
  obtain ⟨h1,h2⟩:=hk
  split at h1
  ·rename_i fs hfs
   split at h1
   ·rename_i fd hfd
    simp only [Bool.and_eq_true,beq_iff_eq] at h1
    obtain ⟨h3,h4⟩:=h1
    split at h4
    ·rename_i i hi
     exact b9h (n:=i.size) hc hev hfs hfd h3 (by simp [n7,hi]) (by simpa using h4) h2 h
    ·cases h4
   ·cases h1
  ·cases h1
 ·simp only [Bool.and_eq_true] at hk
  obtain ⟨h1,h2⟩:=hk
  split at h1
  ·rename_i fs hfs
   split at h1
   ·rename_i fd hfd
    simp only [Bool.and_eq_true,beq_iff_eq] at h1
    exact b9i hc hev hfs hfd h1.1.1 h1.1.2 h1.2 h2 h
   ·cases h1
  ·cases h1
 ·simp only [Bool.and_eq_true] at hk
  obtain ⟨el,ht,hs⟩:=a3P hk.1.1
  exact b9j hc hev ht hs hk.1.2 hk.2 h
 ·simp only [Bool.and_eq_true] at hk
  obtain ⟨⟨h1,h2⟩,h3⟩:=hk
  unfold b7J at h1;split at h1
  ·rename_i n el ht
   simp only [Bool.and_eq_true,beq_iff_eq] at h1
   obtain ⟨rfl,hs⟩:=h1
   exact b9m hc hev ht hs h2 h3 h
  ·cases h1
 ·simp only [Bool.and_eq_true] at hk
  obtain ⟨⟨h1,h2⟩,h3⟩:=hk
  split at h1
  ·rename_i n el hel
   simp only [Bool.and_eq_true,beq_iff_eq] at h1
   obtain ⟨⟨rfl,h4⟩,h5⟩:=h1
   exact b9k hc hev hel h4 h5 h2 h3 h
  ·cases h1
 ·simp only [Bool.and_eq_true] at hk
  exact b7b hc hev (a0e hk.1.1) hk.1.2 hk.2 h
 ·simp only [Bool.and_eq_true,beq_iff_eq] at hk
  obtain ⟨h1,rfl⟩:=hk
  exact b5Z hc hev h1 h
 ·simp only [Bool.and_eq_true] at hk
  exact b9f hc hev hk.1.1 hk.1.2 hk.2 h
 ·simp only [Bool.and_eq_true,beq_iff_eq,decide_eq_true_eq] at hk
  obtain ⟨⟨⟨⟨⟨rfl,h1⟩,h2⟩,h3⟩,h4⟩,h5⟩:=hk
  obtain ⟨el,ht,hs⟩:=a3P h1
  simp only [ht] at h2
  exact c2S hc hn hev ht hs h2 h3 h4 h5 h
 ·split at hk
  ·rename_i c b hb
   rw [execOp_builtin rfl hb]
   exact b2M hc hn hev hk h
  ·cases hk
 ·cases hk
end
end Go.Ab
namespace Go.Ab
def b2d:Option RA→List RA | some x=>[x] | none=>[]
def ROp.operands:ROp→List RA
 | .mv x | .box _ x | .load _ _ x | .a9c _ x | .a6x _ x | .not x | .neg x | .conv _ x | .same x | .s2b x | .b2s x | .b0 x _ | .field _ _ _ x | .extract x _ | .l8 x | .a0m x | .b3a _ _ _ x | .clear _ _ x=>[x]
 | .pick a b c=>[a,b,c]
 | .alloc _ | .b0I | .b8k _=>[]
 | .store _ a b | .bin _ a b | .eqs _ _ a b | .eqb _ a b | .lookup a b _ | .i6 _ a b | .a5Z _ _ a b | .index _ _ _ a b | .a8p a b | .append _ _ a b | .copy _ a b=>[a,b]
 | .mkf _ a b=>a++b
 | .insert a b c=>[a,b,c]
 | .slice _ x a b c=>x::(b2d a++b2d b++b2d c)
 | .a4G x a b=>x::(b2d a++b2d b)
 | .call f a=>f::a
 | .mm _ xs=>xs
 | .build _ ps=>ps.map fun (_,_,x)=>x
 | .G6 _ _ _ ps=>ps.map fun (_,x)=>x
def Alike (σ σ':b7) (b:Nat):Prop:=(find σ' b).map d9.C3=(find σ b).map d9.C3
theorem Alike.of_eq {σ σ':b7} {b:Nat} (h:find σ' b=find σ b):Alike σ σ' b:=by unfold Alike;rw [h]
theorem b1A {o o':d9} (h:o'.C3=o.C3):o'.es=o.es∧o'.row?=o.row?:=by
 cases o <;>cases o' <;>simp only [d9.C3] at h <;>cases h <;>exact ⟨rfl,rfl⟩
theorem b5X {o o':d9} (h:o'.C3=o.C3):o'.len=o.len:=by
 cases o <;>cases o' <;>simp only [d9.C3] at h <;>cases h <;>rfl
theorem Alike.some {σ σ':b7} {b:Nat} {o:d9} (h:Alike σ σ' b) (hf:find σ b=some o):∃ o',find σ' b=some o'∧o'.C3=o.C3:=by
 unfold Alike at h;rw [hf] at h
 cases hf':find σ' b with
 | none=>rw [hf'] at h;cases h
 | some o'=>rw [hf'] at h;simp at h;exact ⟨o',rfl,h⟩
theorem Alike.arr {σ σ':b7} {b e:Nat} {r:List (List PV)} {s:Bool} (h:Alike σ σ' b) (hf:find σ b=Option.some (.arr e r s)):∃ s',find σ' b=Option.some (.arr e r s'):=by
 obtain ⟨o',h1,h2⟩:=h.some hf
 cases o' <;>simp only [d9.C3] at h2 <;>cases h2
 exact ⟨_,h1⟩
theorem Alike.box {σ σ':b7} {b e:Nat} {r:List (List AV)} {s:Bool} (h:Alike σ σ' b) (hf:find σ b=Option.some (.box e r s)):∃ s',find σ' b=Option.some (.box e r s'):=by
 obtain ⟨o',h1,h2⟩:=h.some hf
 cases o' <;>simp only [d9.C3] at h2 <;>cases h2
 exact ⟨_,h1⟩
theorem Alike.map {σ σ':b7} {b:Nat} {r:List (List UInt8 × AV)} (h:Alike σ σ' b) (hf:find σ b=Option.some (.map r)):find σ' b=Option.some (.map r):=by
 obtain ⟨o',h1,h2⟩:=h.some hf
 cases o' <;>simp only [d9.C3] at h2 <;>cases h2
 exact h1
theorem P6 {σ σ':b7} {es:Nat} {v:AV} {xs:List (List PV)} {rd:List Nat} (h:l4 σ es v=some (xs,rd)) (hr:∀ b ∈ rd,Alike σ σ' b):l4 σ' es v=some (xs,rd):=by
 unfold l4 at h ⊢
 split at h
 ·exact h
 ·exact h
 ·exact h
 ·split at h
  ·rename_i hf
   split at h
   ·cases h
    obtain ⟨s',hs'⟩:=(hr _ (by simp)).arr hf
    simp only [hs'];rw [if_pos (by assumption)]
   ·cases h
  ·cases h
 ·cases h
theorem b4I {σ σ':b7} {es:Nat} {v:AV} {xs:List (List AV)} {rd:List Nat} (h:rowsOf σ es v=some (xs,rd)) (hn:l4 σ es v=none) (hr:∀ b ∈ rd,Alike σ σ' b):l4 σ' es v=none:=by
 unfold rowsOf at h
 unfold l4 at hn ⊢
 split at h
 ·rename_i he;simp only [he] at hn;cases hn
 ·rename_i e rows he
  split at h
  ·rename_i hee;simp only [he,if_pos hee] at hn;cases hn
  ·cases h
 ·rename_i e rows he
  split at h
  ·rename_i hee;simp only [he,if_pos hee] at hn;cases hn
  ·cases h
 ·rename_i b i n he
  simp only [he] at hn ⊢
  split at h
  ·rename_i e rows sl hf
   split at h
   ·rename_i hee;simp only [hf,if_pos hee] at hn;cases hn
   ·cases h
  ·rename_i e rows sl hf
   split at h
   ·cases h
    obtain ⟨s',hs'⟩:=(hr _ (by simp)).box hf
    simp only [hs']
   ·cases h
  ·cases h
 ·cases h
theorem a5Q {σ σ':b7} {es:Nat} {v:AV} {xs:List (List AV)} {rd:List Nat} (h:rowsOf σ es v=some (xs,rd)) (hr:∀ b ∈ rd,Alike σ σ' b):rowsOf σ' es v=some (xs,rd):=by
 unfold rowsOf at h ⊢
 split at h
 ·exact h
 ·exact h
 ·exact h
 ·split at h
  ·rename_i hf
   split at h
   ·cases h
    obtain ⟨s',hs'⟩:=(hr _ (by simp)).arr hf
    simp only [hs'];rw [if_pos (by assumption)]
   ·cases h
  ·rename_i hf
   split at h
   ·cases h
    obtain ⟨s',hs'⟩:=(hr _ (by simp)).box hf
    simp only [hs'];rw [if_pos (by assumption)]
   ·cases h
  ·cases h
 ·cases h
theorem T5 {f g:AV→Option (PV × List Nat)} {R:Nat→Prop} (hfg:∀ a p m,f a=some (p,m)→(∀ b ∈ m,R b)→g a=some (p,m)):
 ∀ (l:List AV) (ps:List PV) (m:List Nat),a6O f l=some (ps,m)→(∀ b ∈ m,R b)→a6O g l=some (ps,m)
 | [],ps,m,h,_=>by simp only [a6O] at h ⊢;exact h
 | a::l,ps,m,h,hr=>by
   simp only [a6O] at h ⊢
   split at h
   ·rename_i p n hp
    split at h
    ·rename_i ps' m' hps
     cases h
     rw [hfg a p n hp fun b hb=>hr b (List.mem_append_left _ hb)]
     simp only
     rw [T5 hfg l ps' m' hps fun b hb=>hr b (List.mem_append_right _ hb)]
    ·cases h
   ·cases h
theorem b2q {f g:AV→Option (PV × List Nat)} {R:Nat→Prop} (hfg:∀ a p m,f a=some (p,m)→(∀ b ∈ m,R b)→g a=some (p,m)):
 ∀ (l:List (List AV)) (ps:List (List PV)) (m:List Nat),b3i f l=some (ps,m)→(∀ b ∈ m,R b)→b3i g l=some (ps,m)
 | [],ps,m,h,_=>by simp only [b3i] at h ⊢;exact h
 | a::l,ps,m,h,hr=>by
   simp only [b3i] at h ⊢
   split at h
   ·rename_i p n hp
    split at h
    ·rename_i ps' m' hps
     cases h
     rw [T5 hfg a p n hp fun b hb=>hr b (List.mem_append_left _ hb)]
     simp only
     rw [b2q hfg l ps' m' hps fun b hb=>hr b (List.mem_append_right _ hb)]
    ·cases h
   ·cases h
theorem b8Q {σ σ':b7}:∀ (k:Nat) (a:AV) (p:PV) (m:List Nat),pub σ k a=some (p,m)→(∀ b ∈ m,Alike σ σ' b)→pub σ' k a=some (p,m):=by
 intro k
 induction k with
 | zero=>
   intro a p m h _
   cases a <;>simp only [pub] at h ⊢ <;>first | exact h | cases h
 | succ k ih=>
   intro a p m h hr
   cases a with
   | pv p=>simp only [pub] at h ⊢;exact h
   | emp es=>simp only [pub] at h ⊢;exact h
   | fsl es rows=>simp only [pub] at h ⊢;exact h
   | agg cs=>
     simp only [pub] at h ⊢
     split at h
     ·rename_i ps n hp;cases h;rw [T5 ih _ _ _ hp hr]
     ·cases h
   | o0 cs=>
     simp only [pub] at h ⊢
     split at h
     ·rename_i ps n hp;cases h;rw [T5 ih _ _ _ hp hr]
     ·cases h
   | func fn a b=>
     simp only [pub] at h ⊢
     split at h
     ·rename_i ps n hp
      split at h
      ·rename_i qs m' hq
       cases h
       rw [T5 ih _ _ _ hp fun b hb=>hr b (List.mem_append_left _ hb)]
       simp only
       rw [T5 ih _ _ _ hq fun b hb=>hr b (List.mem_append_right _ hb)]
      ·cases h
     ·cases h
   | own b i n=>
     simp only [pub] at h ⊢
     split at h
     ·rename_i hf;cases h
      obtain ⟨s',hs'⟩:=(hr _ (by simp)).arr hf
      simp only [hs']
     ·rename_i hf
      split at h
      ·rename_i ps m' hp
       cases h
       obtain ⟨s',hs'⟩:=(hr _ (by simp)).box hf
       simp only [hs']
       rw [b2q ih _ _ _ hp fun b hb=>hr b (List.mem_cons_of_mem _ hb)]
      ·cases h
     ·cases h
   | ptr b i j=>
     simp only [pub] at h ⊢
     split at h
     ·rename_i o hf
      split at h
      ·rename_i row hrow
       split at h
       ·rename_i ps m' hp
        cases h
        obtain ⟨o',ho',hse⟩:=(hr b (by simp)).some hf
        simp only [ho',(b1A hse).2,hrow]
        rw [T5 ih _ _ _ hp fun b hb=>hr b (List.mem_cons_of_mem _ hb)]
       ·cases h
      ·cases h
     ·cases h
   | a0u b=>simp only [pub] at h;cases h
   | O5=>simp only [pub] at h;cases h
   | yld b=>simp only [pub] at h;cases h
   | mark k=>simp only [pub] at h;cases h
   | undef=>simp only [pub] at h;cases h
section
variable {σ σ':b7} {nm:Nat} {ev ev':RA→AV} {e:l7}
theorem a0Y {d:Int} {o:Option RA} (h:∀ x ∈ b2d o,ev' x=ev x):j4 ev' d o=j4 ev d o:=by
 cases o with
 | none=>rfl
 | some x=>simp only [j4];rw [h x (by simp [b2d])]
theorem b3G {isMax:Bool}:∀ (l:List RA) (a:AV),(∀ x ∈ l,ev' x=ev x)→mmF isMax ev' a l=mmF isMax ev a l
 | [],a,_=>rfl
 | x::l,a,h=>by
   simp only [mmF]
   rw [h x (by simp)]
   split
   ·exact b3G l _ fun y hy=>h y (List.mem_cons_of_mem _ hy)
   ·rfl
end
end Go.Ab
namespace Go.Ab
section
variable {σ σ':b7} {nm:Nat} {ev ev':RA→AV} {e:l7}
theorem a8r {op:ROp} (h:step σ nm ev op=some e) (hev:∀ x ∈ op.operands,ev' x=ev x)
 (hrd:∀ b ∈ e.rd,Alike σ σ' b∧(b ∈ e.up.map (·.1)→find σ' b=find σ b)):step σ' nm ev' op=some e:=by
 cases op <;>simp only [ROp.operands,List.mem_cons,List.mem_append,List.not_mem_nil,or_false,forall_eq_or_imp,forall_eq] at hev
 case mv x=>simp only [step,hev] at h ⊢;exact h
 case pick c a b=>simp only [step,hev.1,hev.2.1,hev.2.2] at h ⊢;exact h
 case alloc z=>simp only [step] at h ⊢;exact h
 case box n x=>simp only [step,hev] at h ⊢;exact h
 case load g n x=>
  simp only [step,hev] at h ⊢
  split at h
  ·split at h
   ·rename_i o hf
    split at h
    ·rename_i row hrow
     split at h
     ·rename_i hle
      split at h
      ·rename_i v hv
       cases h
       obtain ⟨o',ho',hse⟩:=(hrd _ (by simp)).1.some hf
       simp only [ho',(b1A hse).2,hrow,hle,if_true,hv]
      ·cases h
     ·cases h
    ·cases h
   ·cases h
  ·exact h
  ·cases h
 case store n a v=>
  simp only [step,hev.1,hev.2] at h ⊢
  split at h
  ·rename_i b i j hb
   have key:b ∈ e.rd∧b ∈ e.up.map (·.1):=by
    split at h <;>(try cases h)
    ·split at h <;>(try cases h)
     split at h <;>cases h
     exact ⟨by simp,by simp⟩
    ·split at h <;>(try cases h)
     split at h
     ·split at h <;>cases h
      exact ⟨by simp,by simp⟩
     ·split at h <;>cases h
      exact ⟨by simp,by simp⟩
   rw [(hrd b key.1).2 key.2];exact h
  ·cases h
 case bin o x y=>simp only [step,hev.1,hev.2] at h ⊢;exact h
 case eqs n k x y=>simp only [step,hev.1,hev.2] at h ⊢;exact h
 case eqb n x y=>simp only [step,hev.1,hev.2] at h ⊢;exact h
 case a9c n x=>
  simp only [step,hev] at h ⊢
  split at h
  ·exact h
  ·exact h
  ·exact h
  ·split at h
   ·rename_i o hf
    have hin:∀ b,b ∈ e.rd→∀ o,find σ b=some o→∃ o',find σ' b=some o':=fun b hb o ho=>let ⟨o',h1,_⟩:=(hrd b hb).1.some ho;⟨o',h1⟩
    split at h
    ·cases h
     obtain ⟨o',ho'⟩:=hin _ (by simp) _ hf
     simp only [ho']
    ·cases h
     obtain ⟨o',ho'⟩:=hin _ (by simp) _ hf
     simp only [ho']
   ·cases h
  ·cases h
 case not x=>simp only [step,hev] at h ⊢;exact h
 case neg x=>simp only [step,hev] at h ⊢;exact h
 case conv k x=>simp only [step,hev] at h ⊢;exact h
 case same x=>simp only [step,hev] at h ⊢;exact h
 case s2b x=>simp only [step,hev] at h ⊢;exact h
 case b2s x=>
  simp only [step,hev] at h ⊢
  split at h
  ·rename_i rows rd hp
   split at h
   ·rename_i s hs
    cases h
    rw [P6 hp fun b hb=>(hrd b hb).1]
    simp only [hs]
   ·cases h
  ·cases h
 case mkf fn a b=>
  simp only [step] at h ⊢
  rw [List.map_congr_left fun x hx=>hev x (.inl hx),List.map_congr_left fun x hx=>hev x (.inr hx)]
  exact h
 case b0I=>simp only [step] at h ⊢;exact h
 case insert m k v=>
  simp only [step,hev.1,hev.2.1,hev.2.2] at h ⊢
  split at h
  ·rename_i b s hb hs
   split at h
   ·rename_i ents hf
    split at h
    ·cases h
     rw [(hrd b (by simp)).1.map hf]
     simp only [*]
    ·cases h
   ·cases h
  ·cases h
 case lookup m k z=>
  simp only [step,hev.1,hev.2] at h ⊢
  split at h
  ·rename_i b s hb hs
   split at h
   ·rename_i ents hf
    cases h
    rw [(hrd b (by simp)).1.map hf]
   ·cases h
  ·cases h
 case clear es z x=>
  simp only [step,hev] at h ⊢
  split at h
  ·rename_i b i n hb
   split at h
   ·rename_i es' rows hf
    split at h
    ·rename_i hle
     cases h
     rw [(hrd b (by simp)).2 (by simp),hf]
     simp only;rw [if_pos hle]
    ·cases h
   ·cases h
  ·cases h
 case b3a es by' z x=>simp only [step,hev] at h ⊢;exact h
 case slice es x lo hi mx=>
  have h1:∀ {d:Int},j4 ev' d lo=j4 ev d lo:=a0Y fun x hx=>hev.2 x (.inl (.inl hx))
  have h2:∀ {d:Int},j4 ev' d hi=j4 ev d hi:=a0Y fun x hx=>hev.2 x (.inl (.inr hx))
  have h3:∀ {d:Int},j4 ev' d mx=j4 ev d mx:=a0Y fun x hx=>hev.2 x (.inr hx)
  have h4:∀ es rows,step.sliceP ev' es rows lo hi mx=step.sliceP ev es rows lo hi mx:=by
   intro es rows;simp only [step.sliceP,h1,h2,h3]
  simp only [step,hev.1,h1,h2,h3,h4] at h ⊢
  split at h
  ·split at h
   ·rename_i o hf
    split at h
    ·rename_i hl1 hl2 hl3
     split at h
     ·rename_i hle
      cases h
      obtain ⟨o',ho',hse⟩:=(hrd _ (by simp)).1.some hf
      have e1:=(b1A hse).1
      have e2:=b5X hse
      simp only [ho']
      rw [e1,e2]
      simp only [hl1,hl2,hl3]
      rw [if_pos hle]
     ·cases h
    ·cases h
   ·cases h
  ·exact h
  ·exact h
  ·exact h
  ·cases h
 case a4G x lo hi=>
  have h1:∀ {d:Int},j4 ev' d lo=j4 ev d lo:=a0Y fun x hx=>hev.2 x (.inl hx)
  have h2:∀ {d:Int},j4 ev' d hi=j4 ev d hi:=a0Y fun x hx=>hev.2 x (.inr hx)
  simp only [step,hev.1,h1,h2] at h ⊢;exact h
 case b0 x off=>
  simp only [step,hev] at h ⊢
  split at h
  ·split at h
   ·rename_i o hf
    cases h
    obtain ⟨o',ho',hse⟩:=(hrd _ (by simp)).1.some hf
    simp only [ho']
   ·cases h
  ·exact h
  ·cases h
 case field g off n x=>simp only [step,hev] at h ⊢;exact h
 case a6x n x=>simp only [step,hev] at h ⊢;exact h
 case a5Z len es x i=>
  simp only [step,hev.1,hev.2] at h ⊢
  split at h
  ·split at h
   ·rename_i hle
    rw [if_pos hle]
    split at h
    ·split at h
     ·rename_i o hf
      cases h
      obtain ⟨o',ho',hse⟩:=(hrd _ (by simp)).1.some hf
      simp only [ho']
     ·cases h
    ·exact h
    ·cases h
   ·cases h
  ·cases h
 case i6 es x i=>
  simp only [step,hev.1,hev.2] at h ⊢
  split at h
  ·split at h
   ·split at h
    ·rename_i o hf
     split at h
     ·rename_i hle
      cases h
      obtain ⟨o',ho',hse⟩:=(hrd _ (by simp)).1.some hf
      simp only [ho',(b1A hse).1]
      rw [if_pos hle]
     ·cases h
    ·cases h
   ·exact h
   ·exact h
   ·cases h
  ·cases h
 case index g l es x i=>simp only [step,hev.1,hev.2] at h ⊢;exact h
 case a8p x i=>simp only [step,hev.1,hev.2] at h ⊢;exact h
 case extract x i=>simp only [step,hev] at h ⊢;exact h
 case call f a=>simp only [step] at h;cases h
 case l8 x=>
  simp only [step,hev] at h ⊢
  split at h
  ·split at h
   ·rename_i o hf
    cases h
    obtain ⟨o',ho',hse⟩:=(hrd _ (by simp)).1.some hf
    simp only [ho']
   ·cases h
  ·exact h
  ·exact h
  ·exact h
  ·cases h
 case a0m x=>simp only [step,hev] at h ⊢;exact h
 case b8k n=>simp only [step] at h ⊢;exact h
 case append es by' s x=>
  simp only [step,hev.1,hev.2] at h ⊢
  split at h
  ·split at h
   ·rename_i xs rd hx
    split at h
    ·rename_i hle
     cases h
     rw [a5Q hx fun b hb=>(hrd b hb).1]
     simp only;rw [if_pos hle]
    ·cases h
   ·cases h
  ·split at h
   ·rename_i xs rd hx
    split at h
    ·rename_i hle
     cases h
     rw [P6 hx fun b hb=>(hrd b hb).1]
     simp only;rw [if_pos hle]
    ·cases h
   ·cases h
  ·rename_i b n hb
   split at h
   ·rename_i es' rows sl hf
    split at h
    ·rename_i hee
     split at h
     ·rename_i xs rd hx
      split at h
      ·rename_i hle
       cases h
       rw [(hrd b (by simp)).2 (by simp),hf,P6 hx fun b hb=>(hrd b (by simp [hb])).1]
       simp only;rw [if_pos hee,if_pos hle]
      ·cases h
     ·rename_i hnone
      split at h
      ·rename_i xs rd hx
       split at h
       ·rename_i hle
        cases h
        rw [(hrd b (by simp)).2 (by simp),hf,b4I hx hnone fun b hb=>(hrd b (by simp [hb])).1,a5Q hx fun b hb=>(hrd b (by simp [hb])).1]
        simp only;rw [if_pos hee,if_pos hle]
       ·cases h
      ·cases h
    ·rename_i hee
     split at h
     ·cases h
     ·split at h
      ·rename_i xs rd hx
       split at h
       ·rename_i hle
        cases h
        rw [(hrd b (by simp)).2 (by simp),hf,P6 hx fun b hb=>(hrd b (by simp [hb])).1]
        simp only;rw [if_neg hee,if_pos hle]
       ·cases h
      ·cases h
   ·rename_i es' rows sl hf
    split at h
    ·rename_i hee
     split at h
     ·rename_i xs rd hx
      split at h
      ·rename_i hle
       cases h
       rw [(hrd b (by simp)).2 (by simp),hf,a5Q hx fun b hb=>(hrd b (by simp [hb])).1]
       simp only;rw [if_pos hee,if_pos hle]
      ·cases h
     ·cases h
    ·cases h
   ·cases h
  ·cases h
 case copy es d s=>
  simp only [step,hev.1,hev.2] at h ⊢
  split at h
  ·rename_i b i n hb
   split at h
   ·rename_i es' rows hf
    split at h
    ·rename_i hee
     split at h
     ·rename_i xs rd hx
      split at h
      ·rename_i hle
       cases h
       rw [(hrd b (by simp)).2 (by simp),hf,P6 hx fun b hb=>(hrd b (by simp [hb])).1]
       simp only;rw [if_pos hee,if_pos hle]
      ·cases h
     ·cases h
    ·cases h
   ·cases h
  ·cases h
 case mm m xs=>
  cases xs with
  | nil=>simp only [step] at h;cases h
  | cons x l=>
    simp only [step] at h ⊢
    rw [hev x (by simp),b3G l _ fun y hy=>hev y (by simp [hy])]
    exact h
 case build z ps=>
  simp only [step] at h ⊢
  rw [List.map_congr_left (g:=fun (x:Nat × Nat × RA)=>(x.1,x.2.1,ev x.2.2)) fun x hx=>by
   show (x.1,x.2.1,ev' x.2.2)=_
   rw [hev x.2.2 (List.mem_map.2 ⟨x,hx,rfl⟩)]]
  exact h
 case G6 es n z ps=>
  simp only [step] at h ⊢
  rw [List.map_congr_left (g:=fun (x:Nat × RA)=>(x.1*es,es,ev x.2)) fun x hx=>by
   show (x.1*es,es,ev' x.2)=_
   rw [hev x.2 (List.mem_map.2 ⟨x,hx,rfl⟩)]]
  exact h
end
end Go.Ab
