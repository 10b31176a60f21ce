/- A part of the proof: the texts TdCell, TdCell2, TdCell3, TdVa. Under: nothing. -/
import Derived.Test.YtngmifmcohmfmaaDoorG09
set_option linter.unusedVariables false
namespace Go.Ab.Td
set_option maxRecDepth 100000
set_option maxRecDepth 100000
open Go Go.Ab
theorem b1C (x:Int):0≤IntKind.u8.wrap x∧IntKind.u8.wrap x<256:=by
 have:IntKind.u8.wrap x=x % 256:=by
  show (if (false&&decide (x % (2 ^ 8:Int)≥(2 ^ 7:Int)))=true then x % (2 ^ 8:Int) - (2 ^ 8:Int) else x % (2 ^ 8:Int))=x % 256
  simp
 rw [this];omega
theorem a4v {σ:b8} {nm:Nat} {ev:RA→AV} {x y:RA} {s:List UInt8} {h:Int} (hx:ev x= .pv (.str s)) (hy:ev y= .pv (.int .i64 h)) (h0:0≤h) (h1:h≤s.length):
 step σ nm ev (.a3Q x none (some y))=some {v:=.pv (.str (s.take h.toNat))}:=by
 simp [step,hx,hy,l5,idxOf,h0,h1,m8.of]
def b4E (s:List UInt8):PV:=.agg [.int .i64 5,.bool false,.int .i64 0,.str s,.int .i64 0,.int .i64 0,.int .i64 0]
def b4l (n:Int):PV:=.agg [.int .i64 3,.str [],.emp 7,.emp 7,.emp 7,.int .i64 n,.int .i64 0]
def b2l (S:List UInt8):List UInt8:=S.take (if (40:Int)<S.length then (40:Int) else (S.length:Int)).toNat
theorem b0A (S:List UInt8):(b2l S).length≤40:=by
 unfold b2l
 rw [List.length_take]
 split <;>omega
theorem SlR.none:SlR (.emp 7) 0:=.inl ⟨rfl,rfl⟩
attribute [local irreducible] j6
section
variable (Ok:Nat→List PV→Own→PV→Prop) (rows:List (List PV)) (K A B N:Int) (S:List UInt8) (hA:0≤A∧A<256) (hB:0≤B∧B<256)
variable (hO:∀ K' A' B' N' S',0≤A'∧A'<256→0≤B'∧B'<256→∃ r,O7 r∧Ok i7 [F0 K' A' B' N' S',.sl 7 rows] [] (.agg r))
variable (h65:∀ n,Ok r9 [.int .i64 n] [] (b4l n)) (h66:∀ s,Ok A1 [.str s] [] (b4E s))
include hA hB hO h65 h66
end
end Go.Ab.Td
namespace Go.Ab.Td
set_option maxRecDepth 100000
set_option maxRecDepth 100000
open Go Go.Ab
theorem b3P {v:Int} (h1:0≤v) (h2:v<2147483648):IntKind.i32.wrap v=v:=by
 show (if (true&&decide (v % (2 ^ 32:Int)≥(2 ^ 31:Int)))=true then v % (2 ^ 32:Int) - (2 ^ 32:Int) else v % (2 ^ 32:Int))=v
 have e:v % (2 ^ 32:Int)=v:=by omega
 have e2:decide (v≥(2 ^ 31:Int))=false:=by simp;omega
 simp only [e,e2,Bool.and_false,Bool.false_eq_true,if_false]
theorem a1S {σ:b8} {nm:Nat} {ev:RA→AV} {x y:RA} {k:IntKind} {a b:Int} (hx:ev x= .pv (.int k a)) (hy:ev y= .pv (.int k b)) (hb:b≠0):step σ nm ev (.bin .quo x y)=some {v:=.pv (.int k (k.wrap (a.tdiv b)))}:=by
 simp only [step,hx,hy,binop,if_true,m8.of]
 rw [if_neg hb]
def w2 (A B N i:Int):PV:=F0 (IntKind.u8.wrap (B+IntKind.u8.wrap (IntKind.i64.wrap (5*i)))) (IntKind.u8.wrap (A+IntKind.u8.wrap i)) (IntKind.u8.wrap (B*IntKind.u8.wrap (IntKind.i64.wrap (i+1)))) (IntKind.i32.wrap (N.tdiv (IntKind.i32.wrap (IntKind.i64.wrap (i+1))))) []
def b6S:List AV:=[.pv (.int .i64 0),.pv (.str []),.emp 7,.emp 7,.emp 7,.pv (.int .i64 0),.pv (.int .i64 0)]
def cTm (rows:List (List PV)) (v:Int):T:=((((T.nil.set e9 1 (.pv (.sl 7 rows))).set e9 2 (.ptr 0 0 0)).set e9 4 (.ptr 1 0 0)).set e9 6 (.ptr 2 0 0)).set e9 7 (.pv (.int .i64 v))
def c4p (its:AV):List AV:=[.pv (.int .i64 2),.pv (.str []),its,.emp 7,.emp 7,.pv (.int .i64 0),.pv (.int .i64 0)]
def c2n (K A B N:Int) (S:List UInt8):List AV:=[.pv (.int .u8 K),.pv (.int .u8 A),.pv (.int .u8 B),.pv (.int .i32 N),.pv (.str S)]
def cSt (rows:List (List PV)) (K A B N:Int) (S:List UInt8) (v:Int) (c:Nat):List (List PV)→St
 | []=>⟨cTm rows v,[(0,some (.box 5 [c2n K A B N S] false)),(1,some (.box 7 [b6S] false)),(2,some (.box 7 [c4p (.emp 7)] false))],3,139⟩
 | x::L=>⟨cTm rows v,[(0,some (.box 5 [c2n K A B N S] false)),(1,some (.box 7 [b6S] false)),(2,some (.box 7 [c4p (.own 3 0 c)] false)),(3,some (.arr 7 (x::L) false))],4,139⟩
attribute [local irreducible] j6
end Go.Ab.Td
namespace Go.Ab.Td
set_option maxRecDepth 100000
set_option maxRecDepth 100000
open Go Go.Ab
theorem M0 {σ:b8} {nm es bytes c:Nat} {ev:RA→AV} {s x:RA} {b:Nat} {sl:Bool} {L xs:List (List PV)} {rd:List Nat} (hs:ev s= .own b 0 c) (hc:L.length=c) (hf:find σ b=some (.arr es L sl)) (hx:p9 σ es (ev x)=some (xs,rd)) (hb:(c+xs.length)*bytes≤2 ^ 40):
 step σ nm ev (.append es bytes s x)=some {v:=.own nm 0 (c+xs.length),rd:=b::rd,up:=[(b,none),(nm,some (.arr es (L++xs) sl))]}:=by
 simp only [step,hs,AV.e,hf,hc,and_self,if_true,hx]
 rw [if_pos hb]
def a6o (i:Int):List UInt8:=match a6p.drop (i.toNat*1) with
 | .str c::_=>c
 | _=>[]
theorem b8t {i:Int} (h0:0≤i) (h1:i<8):∃ l,a6p.drop (i.toNat*1)= .str (a6o i)::l:=by
 obtain ⟨c,l,h⟩:=b6R h0 h1
 exact ⟨l,by unfold a6o;rw [h]⟩
def a6W (s:List UInt8):List PV:=[.int .i64 5,.bool false,.int .i64 0,.str s,.int .i64 0,.int .i64 0,.int .i64 0]
def dTm (rows:List (List PV)) (v:Int):T:=((((T.nil.set e9 1 (.pv (.sl 7 rows))).set e9 2 (.ptr 0 0 0)).set e9 4 (.ptr 1 0 0)).set e9 9 (.ptr 2 0 0)).set e9 10 (.pv (.int .i64 v))
def c4r (a:Int) (ks vs:AV):List AV:=[.pv (.int .i64 3),.pv (.str []),.pv (.emp 7),ks,vs,.pv (.int .i64 a),.pv (.int .i64 0)]
def dSt (rows:List (List PV)) (K A B N:Int) (S:List UInt8) (a v:Int) (c:Nat) (ks:List (List PV)):List (List PV)→St
 | []=>⟨dTm rows v,[(0,some (.box 5 [c2n K A B N S] false)),(1,some (.box 7 [b6S] false)),(2,some (.box 7 [c4r a (.pv (.emp 7)) (.pv (.emp 7))] false))],3,139⟩
 | x::L=>⟨dTm rows v,[(0,some (.box 5 [c2n K A B N S] false)),(1,some (.box 7 [b6S] false)),(2,some (.box 7 [c4r a (.own 3 0 c) (.own 4 0 c)] false)),(3,some (.arr 7 ks false)),(4,some (.arr 7 (x::L) false))],5,139⟩
attribute [local irreducible] j6
end Go.Ab.Td
namespace Go.Ab.Td
set_option maxRecDepth 100000
set_option maxRecDepth 100000
open Go Go.Ab
def SlF (F:List PV→Prop) (q:PV) (m:Nat):Prop:=(q= .emp 7∧m=0)∨∃ rr:List (List PV),q= .sl 7 rr∧rr.length=m∧∀ x ∈ rr,F x
def SlK (q:PV) (m:Nat):Prop:=(q= .emp 7∧m=0)∨q= .sl 7 ((List.range m).map fun i:Nat=>a6W (a6o (i:Int)))
def a9k (F:List PV→Prop) (r:List PV):Prop:=
 (∃ s:List UInt8,s.length≤40∧r=[.int .i64 1,.str s,.emp 7,.emp 7,.emp 7,.int .i64 0,.int .i64 0])∨
 (∃ (q:PV) (m:Nat),m≤5∧SlF F q m∧r=[.int .i64 2,.str [],q,.emp 7,.emp 7,.int .i64 0,.int .i64 0])∨
 (∃ (qk qv:PV) (m mx:Nat),m≤mx∧mx≤5∧SlK qk m∧SlF F qv m∧r=[.int .i64 3,.str [],.emp 7,qk,qv,.int .i64 (mx:Int),.int .i64 0])∨
 (∃ (s:List UInt8) (a mx:Int),s.length≤40∧0≤a∧a≤s.length∧(mx=0∨mx=1)∧r=[.int .i64 4,.str s,.emp 7,.emp 7,.emp 7,.int .i64 mx,.int .i64 a])
theorem b7l (x:Int): -2147483648≤IntKind.i32.wrap x∧IntKind.i32.wrap x≤2147483647:=by
 have e:IntKind.i32.wrap x=if x % 4294967296≥2147483648 then x % 4294967296 - 4294967296 else x % 4294967296:=by
  show (if (true&&decide (x % (2 ^ 32:Int)≥(2 ^ 31:Int)))=true then x % (2 ^ 32:Int) - (2 ^ 32:Int) else x % (2 ^ 32:Int))=_
  simp
 rw [e];split <;>omega
attribute [local irreducible] j6
section
variable (F:List PV→Prop) (Ok:Nat→List PV→Own→PV→Prop) (rows:List (List PV)) (K A B N:Int) (S:List UInt8) (hA:0≤A∧A<256) (hB:0≤B∧B<256)
variable (hO:∀ K' A' B' N' S',0≤A'∧A'<256→0≤B'∧B'<256→ -2147483648≤N'∧N'≤2147483647→∃ r,(F r∧O7 r)∧Ok i7 [F0 K' A' B' N' S',.sl 7 rows] [] (.agg r))
variable (h65:∀ n,Ok r9 [.int .i64 n] [] (b4l n)) (h66:∀ s,Ok A1 [.str s] [] (b4E s))
include hA hB hO h65 h66
set_option maxHeartbeats 4000000 in
theorem c2Z (h0:(K.tmod 5==0)=true):∃ r,a9k F r∧fnW wG Ok noX noT noT 0 y5 [F0 K A B N S,.sl 7 rows] (.agg r):=by
 have _u:=And.intro hA (And.intro hB (And.intro hO (And.intro h65 h66)))
 have hm:0≤(if (40:Int)<S.length then (40:Int) else (S.length:Int))∧(if (40:Int)<S.length then (40:Int) else (S.length:Int))≤S.length:=by split <;>omega
 have hc:=b0A S
 ·apply Exists.intro
  apply And.intro
  rotate_left
  ·conv=>whnf
   refine g9 (a4v (s:=S) (h:=if (40:Int)<S.length then (40:Int) else (S.length:Int)) (by rfl) (by rfl) hm.1 hm.2) ?_
   conv=>whnf
   refine l8 h0 ?_
   conv=>whnf
   refine l8 h0 ?_
   conv=>whnf
  ·exact .inl ⟨_,hc,rfl⟩
set_option maxHeartbeats 4000000 in
theorem c3a (h0:(K.tmod 5==0)=false) (h1:(K.tmod 5==1)=true):∃ r,a9k F r∧fnW wG Ok noX noT noT 0 y5 [F0 K A B N S,.sl 7 rows] (.agg r):=by
 have _u:=And.intro hA (And.intro hB (And.intro hO (And.intro h65 h66)))
 have hm:0≤(if (40:Int)<S.length then (40:Int) else (S.length:Int))∧(if (40:Int)<S.length then (40:Int) else (S.length:Int))≤S.length:=by split <;>omega
 have hc:=b0A S
 ·apply Exists.intro
  apply And.intro
  rotate_left
  ·conv=>whnf
   refine g9 (a4v (s:=S) (h:=if (40:Int)<S.length then (40:Int) else (S.length:Int)) (by rfl) (by rfl) hm.1 hm.2) ?_
   conv=>whnf
   refine d8 h0 ?_
   conv=>whnf
   refine l8 h1 ?_
   conv=>whnf
  ·exact .inl ⟨_,hc,rfl⟩
set_option maxHeartbeats 4000000 in
theorem c3d (h0:(K.tmod 5==0)=false) (h1:(K.tmod 5==1)=false) (h2:(K.tmod 5==2)=false) (h3:(K.tmod 5==3)=false):∃ r,a9k F r∧fnW wG Ok noX noT noT 0 y5 [F0 K A B N S,.sl 7 rows] (.agg r):=by
 have _u:=And.intro hA (And.intro hB (And.intro hO (And.intro h65 h66)))
 have hm:0≤(if (40:Int)<S.length then (40:Int) else (S.length:Int))∧(if (40:Int)<S.length then (40:Int) else (S.length:Int))≤S.length:=by split <;>omega
 have hc:=b0A S
 have hne:IntKind.i64.wrap (((b2l S).length:Int)+1)≠0:=by rw [wrap_small (by omega) (by omega)];omega
 ·apply Exists.intro
  apply And.intro
  rotate_left
  ·conv=>whnf
   refine g9 (a4v (s:=S) (h:=if (40:Int)<S.length then (40:Int) else (S.length:Int)) (by rfl) (by rfl) hm.1 hm.2) ?_
   conv=>whnf
   refine d8 h0 ?_
   conv=>whnf
   refine d8 h1 ?_
   conv=>whnf
   refine d8 h2 ?_
   conv=>whnf
   refine d8 h3 ?_
   conv=>whnf
   refine g9 (D7 (k:=.i64) (a:=IntKind.i64.wrap A) (by rfl) (by rfl) hne) ?_
   conv=>whnf
   refine l8 (by kernel_rfl) ?_
   conv=>whnf
  ·refine .inr (.inr (.inr ⟨_,_,_,hc,?_,?_,?_,rfl⟩))
   ·exact Int.tmod_nonneg _ (by rw [wrap_small (by omega) (by omega)];exact hA.1)
   ·have e:IntKind.i64.wrap (((b2l S).length:Int)+1)=((b2l S).length:Int)+1:=wrap_small (by omega) (by omega)
    have q:=Int.tmod_lt_of_pos (IntKind.i64.wrap A) (show 0<IntKind.i64.wrap (((b2l S).length:Int)+1) by rw [e];omega)
    rw [e] at q ⊢
    exact Int.lt_add_one_iff.1 q
   ·have r2:0≤B.tmod 2∧B.tmod 2<2:=⟨Int.tmod_nonneg _ hB.1,Int.tmod_lt_of_pos _ (by decide)⟩
    rw [wrap_small (by omega) (by omega)]
    omega
end
end Go.Ab.Td
