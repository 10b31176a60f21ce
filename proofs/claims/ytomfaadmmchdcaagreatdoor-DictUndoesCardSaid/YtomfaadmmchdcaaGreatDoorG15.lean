/- A part of the proof: the texts TdCell3, TdVa, TdVb. Under: nothing. -/
import Derived.Test.YtomfaadmmchdcaaGreatDoorG14
set_option linter.unusedVariables false
namespace Go.Ab.Td
set_option maxRecDepth 100000
set_option maxRecDepth 100000
open Go Go.Ab
theorem M1 {σ:b7} {nm es bytes c:Nat} {ev:RA→AV} {s x:RA} {b:Nat} {sl:Bool} {L xs:List (List PV)} {rd:List Nat} (hs:ev s= .own b 0 c) (hc:L.length=c) (hf:find σ b=some (.arr es L sl)) (hx:l4 σ es (ev x)=some (xs,rd)) (hb:(c+xs.length)*bytes≤2 ^ 40):
 step σ nm ev (.append es bytes s x)=some {v:=.own nm 0 (c+xs.length),rd:=b::rd,up:=[(b,none),(nm,some (.arr es (L++xs) sl))]}:=by
 simp only [step,hs,AV.e,hf,hc,and_self,if_true,hx]
 rw [if_pos hb]
def a6U (i:Int):List UInt8:=match b0v.drop (i.toNat*1) with
 | .str c::_=>c
 | _=>[]
theorem b9E {i:Int} (h0:0≤i) (h1:i<8):∃ l,b0v.drop (i.toNat*1)= .str (a6U i)::l:=by
 obtain ⟨c,l,h⟩:=c3B h0 h1
 exact ⟨l,by unfold a6U;rw [h]⟩
def a7F (s:List UInt8):List PV:=[.int .i64 5,.bool false,.int .i64 0,.str s,.int .i64 0,.int .i64 0,.int .i64 0]
def dTm (rows:List (List PV)) (v:Int):T:=((((T.nil.set d7 1 (.pv (.sl 7 rows))).set d7 2 (.ptr 0 0 0)).set d7 4 (.ptr 1 0 0)).set d7 9 (.ptr 2 0 0)).set d7 10 (.pv (.int .i64 v))
def c5w (a:Int) (ks vs:AV):List AV:=[.pv (.int .i64 3),.pv (.str []),.pv (.emp 7),ks,vs,.pv (.int .i64 a),.pv (.int .i64 0)]
def dSt (rows:List (List PV)) (K A B N:Int) (S:List UInt8) (a v:Int) (c:Nat) (ks:List (List PV)):List (List PV)→St
 | []=>⟨dTm rows v,[(0,some (.box 5 [c3A K A B N S] false)),(1,some (.box 7 [b8h] false)),(2,some (.box 7 [c5w a (.pv (.emp 7)) (.pv (.emp 7))] false))],3,139⟩
 | x::L=>⟨dTm rows v,[(0,some (.box 5 [c3A K A B N S] false)),(1,some (.box 7 [b8h] false)),(2,some (.box 7 [c5w a (.own 3 0 c) (.own 4 0 c)] false)),(3,some (.arr 7 ks false)),(4,some (.arr 7 (x::L) false))],5,139⟩
attribute [local irreducible] e9
end Go.Ab.Td
namespace Go.Ab.Td
set_option maxRecDepth 100000
set_option maxRecDepth 100000
open Go Go.Ab
def SlF (F:List PV→Prop) (q:PV) (m:Nat):Prop:=(q= .emp 7∧m=0)∨∃ rr:List (List PV),q= .sl 7 rr∧rr.length=m∧∀ x ∈ rr,F x
def SlK (q:PV) (m:Nat):Prop:=(q= .emp 7∧m=0)∨q= .sl 7 ((List.range m).map fun i:Nat=>a7F (a6U (i:Int)))
def b0x (F:List PV→Prop) (r:List PV):Prop:=
 (∃ s:List UInt8,s.length≤40∧r=[.int .i64 1,.str s,.emp 7,.emp 7,.emp 7,.int .i64 0,.int .i64 0])∨
 (∃ (q:PV) (m:Nat),m≤5∧SlF F q m∧r=[.int .i64 2,.str [],q,.emp 7,.emp 7,.int .i64 0,.int .i64 0])∨
 (∃ (qk qv:PV) (m mx:Nat),m≤mx∧mx≤5∧SlK qk m∧SlF F qv m∧r=[.int .i64 3,.str [],.emp 7,qk,qv,.int .i64 (mx:Int),.int .i64 0])∨
 (∃ (s:List UInt8) (a mx:Int),s.length≤40∧0≤a∧a≤s.length∧(mx=0∨mx=1)∧r=[.int .i64 4,.str s,.emp 7,.emp 7,.emp 7,.int .i64 mx,.int .i64 a])
theorem b8A (x:Int): -2147483648≤IntKind.i32.wrap x∧IntKind.i32.wrap x≤2147483647:=by
 have e:IntKind.i32.wrap x=if x % 4294967296≥2147483648 then x % 4294967296 - 4294967296 else x % 4294967296:=by
  show (if (true&&decide (x % (2 ^ 32:Int)≥(2 ^ 31:Int)))=true then x % (2 ^ 32:Int) - (2 ^ 32:Int) else x % (2 ^ 32:Int))=_
  simp
 rw [e];split <;>omega
attribute [local irreducible] e9
section
variable (F:List PV→Prop) (Ok:Nat→List PV→Own→PV→Prop) (rows:List (List PV)) (K A B N:Int) (S:List UInt8) (hA:0≤A∧A<256) (hB:0≤B∧B<256)
variable (hO:∀ K' A' B' N' S',0≤A'∧A'<256→0≤B'∧B'<256→ -2147483648≤N'∧N'≤2147483647→∃ r,(F r∧a3A r)∧Ok j1 [a1m K' A' B' N' S',.sl 7 rows] [] (.agg r))
variable (h65:∀ n,Ok n5 [.int .i64 n] [] (b5j n)) (h66:∀ s,Ok x5 [.str s] [] (b5D s))
include hA hB hO h65 h66
set_option maxHeartbeats 4000000 in
theorem c4h (h0:(K.tmod 5==0)=true):∃ r,b0x F r∧fnW wG Ok noX noT noT 0 w7 [a1m K A B N S,.sl 7 rows] (.agg r):=by
 have _u:=And.intro hA (And.intro hB (And.intro hO (And.intro h65 h66)))
 have hm:0≤(if (40:Int)<S.length then (40:Int) else (S.length:Int))∧(if (40:Int)<S.length then (40:Int) else (S.length:Int))≤S.length:=by split <;>omega
 have hc:=b1F S
 ·apply Exists.intro
  apply And.intro
  rotate_left
  ·conv=>whnf
   refine j6 (a5g (s:=S) (h:=if (40:Int)<S.length then (40:Int) else (S.length:Int)) (by rfl) (by rfl) hm.1 hm.2) ?_
   conv=>whnf
   refine v8 h0 ?_
   conv=>whnf
   refine v8 h0 ?_
   conv=>whnf
  ·exact .inl ⟨_,hc,rfl⟩
set_option maxHeartbeats 4000000 in
theorem c4i (h0:(K.tmod 5==0)=false) (h1:(K.tmod 5==1)=true):∃ r,b0x F r∧fnW wG Ok noX noT noT 0 w7 [a1m K A B N S,.sl 7 rows] (.agg r):=by
 have _u:=And.intro hA (And.intro hB (And.intro hO (And.intro h65 h66)))
 have hm:0≤(if (40:Int)<S.length then (40:Int) else (S.length:Int))∧(if (40:Int)<S.length then (40:Int) else (S.length:Int))≤S.length:=by split <;>omega
 have hc:=b1F S
 ·apply Exists.intro
  apply And.intro
  rotate_left
  ·conv=>whnf
   refine j6 (a5g (s:=S) (h:=if (40:Int)<S.length then (40:Int) else (S.length:Int)) (by rfl) (by rfl) hm.1 hm.2) ?_
   conv=>whnf
   refine D9 h0 ?_
   conv=>whnf
   refine v8 h1 ?_
   conv=>whnf
  ·exact .inl ⟨_,hc,rfl⟩
set_option maxHeartbeats 4000000 in
theorem c4l (h0:(K.tmod 5==0)=false) (h1:(K.tmod 5==1)=false) (h2:(K.tmod 5==2)=false) (h3:(K.tmod 5==3)=false):∃ r,b0x F r∧fnW wG Ok noX noT noT 0 w7 [a1m K A B N S,.sl 7 rows] (.agg r):=by
 have _u:=And.intro hA (And.intro hB (And.intro hO (And.intro h65 h66)))
 have hm:0≤(if (40:Int)<S.length then (40:Int) else (S.length:Int))∧(if (40:Int)<S.length then (40:Int) else (S.length:Int))≤S.length:=by split <;>omega
 have hc:=b1F S
 have hne:IntKind.i64.wrap (((b3s S).length:Int)+1)≠0:=by rw [wrap_small (by omega) (by omega)];omega
 ·apply Exists.intro
  apply And.intro
  rotate_left
  ·conv=>whnf
   refine j6 (a5g (s:=S) (h:=if (40:Int)<S.length then (40:Int) else (S.length:Int)) (by rfl) (by rfl) hm.1 hm.2) ?_
   conv=>whnf
   refine D9 h0 ?_
   conv=>whnf
   refine D9 h1 ?_
   conv=>whnf
   refine D9 h2 ?_
   conv=>whnf
   refine D9 h3 ?_
   conv=>whnf
   refine j6 (X1 (k:=.i64) (a:=IntKind.i64.wrap A) (by rfl) (by rfl) hne) ?_
   conv=>whnf
   refine v8 (by kernel_rfl) ?_
   conv=>whnf
  ·refine .inr (.inr (.inr ⟨_,_,_,hc,?_,?_,?_,rfl⟩))
   ·exact Int.tmod_nonneg _ (by rw [wrap_small (by omega) (by omega)];exact hA.1)
   ·have e:IntKind.i64.wrap (((b3s S).length:Int)+1)=((b3s S).length:Int)+1:=wrap_small (by omega) (by omega)
    have q:=Int.tmod_lt_of_pos (IntKind.i64.wrap A) (show 0<IntKind.i64.wrap (((b3s S).length:Int)+1) by rw [e];omega)
    rw [e] at q ⊢
    exact Int.lt_add_one_iff.1 q
   ·have r2:0≤B.tmod 2∧B.tmod 2<2:=⟨Int.tmod_nonneg _ hB.1,Int.tmod_lt_of_pos _ (by decide)⟩
    rw [wrap_small (by omega) (by omega)]
    omega
end
end Go.Ab.Td
namespace Go.Ab.Td
set_option maxRecDepth 100000
set_option maxRecDepth 100000
open Go Go.Ab
attribute [local irreducible] e9
set_option maxHeartbeats 4000000 in
theorem c4j (F:List PV→Prop) (Ok:Nat→List PV→Own→PV→Prop) (rows:List (List PV)) (K A B N:Int) (S:List UInt8) (hA:0≤A∧A<256)
 (hO:∀ K' A' B' N' S',0≤A'∧A'<256→0≤B'∧B'<256→ -2147483648≤N'∧N'≤2147483647→∃ r,(F r∧a3A r)∧Ok j1 [a1m K' A' B' N' S',.sl 7 rows] [] (.agg r))
 (h0:(K.tmod 5==0)=false) (h1:(K.tmod 5==1)=false) (h2:(K.tmod 5==2)=true):∃ r,b0x F r∧fnW wG Ok noX noT noT 0 w7 [a1m K A B N S,.sl 7 rows] (.agg r):=by
 have hm:0≤(if (40:Int)<S.length then (40:Int) else (S.length:Int))∧(if (40:Int)<S.length then (40:Int) else (S.length:Int))≤S.length:=by split <;>omega
 obtain ⟨f,hf⟩:=Classical.axiomOfChoice (fun i:Nat=>hO _ _ (IntKind.i32.wrap (N.tdiv (IntKind.i32.wrap (IntKind.i64.wrap ((i:Int)+1))))) [] (b2J (A+IntKind.u8.wrap (i:Int))) (b2J (B*IntKind.u8.wrap (IntKind.i64.wrap ((i:Int)+1)))) (b8A _) (K':=IntKind.u8.wrap (B+IntKind.u8.wrap (IntKind.i64.wrap (5*(i:Int))))))
 obtain ⟨a,ha⟩:∃ a:Nat,A.tmod 6=a:=⟨(A.tmod 6).toNat,by have:=Int.tmod_nonneg 6 hA.1;omega⟩
 have ha6:a<6:=by have:=Int.tmod_lt_of_pos A (show (0:Int)<6 by decide);omega
 have hw:IntKind.i64.wrap (A.tmod 6)=a:=by rw [ha,wrap_small (by omega) (by omega)]
 let items:List (List PV):=(List.range a).map f
 refine ⟨[.int .i64 2,.str [],match items with | []=>.emp 7 | x::L=>.sl 7 (((x::L).drop 0).take a),.emp 7,.emp 7,.int .i64 0,.int .i64 0],?_,?_⟩
 ·have hit:∀ x ∈ items,F x:=by
   intro x hx
   obtain ⟨i,_,rfl⟩:=List.mem_map.1 hx
   exact (hf i).1.1
  have hil:items.length=a:=by simp [items]
  refine .inr (.inl ⟨_,a,by omega,?_,rfl⟩)
  revert hit hil
  generalize items=L
  intro hit hil
  cases L with
  | nil=>exact .inl ⟨rfl,by simpa using hil.symm⟩
  | cons x L=>
    refine .inr ⟨_,rfl,?_,?_⟩
    ·simp only [List.drop_zero,List.length_take];omega
    ·intro y hy
     exact hit y (List.mem_of_mem_take (by simpa using hy))
 ·conv=>whnf
  refine j6 (a5g (s:=S) (h:=if (40:Int)<S.length then (40:Int) else (S.length:Int)) (by rfl) (by rfl) hm.1 hm.2) ?_
  conv=>whnf
  refine D9 h0 ?_
  conv=>whnf
  refine D9 h1 ?_
  conv=>whnf
  refine v8 h2 ?_
  conv=>whnf
  intro X hX _
  have key:∀ (m i:Nat) (s:St),i+m=a→norm [1,2,4,6,7] s=cSt rows K A B N S (i:Int) i ((List.range i).map f)→X s:=by
   intro m
   induction m with
   | zero=>
     intro i s hi hs
     refine w9 hX s ?_
     rw [hs]
     have hia:i=a:=by omega
     subst hia
     have hlt:decide ((i:Int)<IntKind.i64.wrap (A.tmod 6))=false:=by rw [hw];simp
     show aw wG Ok _ true _ _ (cSt rows K A B N S (i:Int) i items)
     generalize items=L
     cases L with
     | nil=>
       conv=>whnf
       refine D9 hlt ?_
       conv=>whnf
     | cons x L=>
       conv=>whnf
       refine D9 hlt ?_
       conv=>whnf
   | succ m ih=>
     intro i s hi hs
     refine w9 hX s ?_
     rw [hs]
     obtain ⟨⟨_,q1,q2,q3,q4,q5,q6,q7,hqn,hfi⟩,hp⟩:=hf i
     have hlt:decide ((i:Int)<IntKind.i64.wrap (A.tmod 6))=true:=by rw [hw];simp;omega
     have hb:IntKind.i32.wrap (IntKind.i64.wrap ((i:Int)+1))≠0:=by rw [wrap_small (by omega) (by omega),b4T (by omega) (by omega)];omega
     have hnext:(List.range (i+1)).map f=(List.range i).map f++[f i]:=by simp [List.range_succ]
     have hw1:IntKind.i64.wrap ((i:Int)+1)=((i+1:Nat):Int):=by rw [wrap_small (by omega) (by omega)];omega
     have hgo:∀ s',norm [1,2,4,6,7] s'=cSt rows K A B N S (IntKind.i64.wrap ((i:Int)+1)) (i+1) ((List.range i).map f++[f i])→X s':=fun s' h=>ih (i+1) s' (by omega) (by rw [h,hw1,hnext])
     have hlen:((List.range i).map f).length=i:=by simp
     clear hnext ih hs
     rw [hfi] at hgo hp
     generalize (List.range i).map f=L at hgo hlen ⊢
     cases L with
     | nil=>
       conv=>whnf
       refine v8 hlt ?_
       conv=>whnf
       refine j6 (a0l (k:=.i32) (by rfl) (by rfl) hb) ?_
       conv=>whnf
       refine v8 (by kernel_rfl) ?_
       conv=>whnf
       refine ⟨_,_,hp,?_⟩
       conv=>whnf
       refine v8 (by kernel_rfl) ?_
       conv=>whnf
       simp only [List.length_nil] at hlen
       subst hlen
       exact hgo _ rfl
     | cons x L=>
       conv=>whnf
       refine v8 hlt ?_
       conv=>whnf
       refine j6 (a0l (k:=.i32) (by rfl) (by rfl) hb) ?_
       conv=>whnf
       refine v8 (by kernel_rfl) ?_
       conv=>whnf
       refine ⟨_,_,hp,?_⟩
       conv=>whnf
       refine j6 (b1C (L:=x::L) (c:=i) (xs:=[[.int .i64 q1,.bool q2,.int .i64 q3,.str q4,.int .i64 q5,.int .i64 q6,.int .i64 q7]]) (by rfl) hlen (by rfl) (by rfl) (by simp;omega)) ?_
       conv=>whnf
       refine v8 (by kernel_rfl) ?_
       conv=>whnf
       exact hgo _ rfl
  exact key a 0 _ (by omega) rfl
end Go.Ab.Td
