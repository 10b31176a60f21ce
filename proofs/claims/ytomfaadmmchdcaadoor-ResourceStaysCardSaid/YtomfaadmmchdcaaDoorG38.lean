/- A part of the proof: the texts TdVa, TdVb. Under: nothing. -/
import Derived.Test.YtomfaadmmchdcaaDoorG20
set_option linter.unusedVariables false
namespace Go.Ab.Td
set_option maxRecDepth 100000
set_option maxRecDepth 100000
open Go Go.Ab
def SlF (F:List PV→Prop) (q:PV) (m:Nat):Prop:=(q= .emp 7∧m=0)∨∃ rr:List (List PV),q= .sl 7 rr∧rr.length=m∧∀ x ∈ rr,F x
def SlK (q:PV) (m:Nat):Prop:=(q= .emp 7∧m=0)∨q= .sl 7 ((List.range m).map fun i:Nat=>a7D (a6N (i:Int)))
def b0s (F:List PV→Prop) (r:List PV):Prop:=
 (∃ s:List UInt8,s.length≤40∧r=[.int .i64 1,.str s,.emp 7,.emp 7,.emp 7,.int .i64 0,.int .i64 0])∨
 (∃ (q:PV) (m:Nat),m≤5∧SlF F q m∧r=[.int .i64 2,.str [],q,.emp 7,.emp 7,.int .i64 0,.int .i64 0])∨
 (∃ (qk qv:PV) (m mx:Nat),m≤mx∧mx≤5∧SlK qk m∧SlF F qv m∧r=[.int .i64 3,.str [],.emp 7,qk,qv,.int .i64 (mx:Int),.int .i64 0])∨
 (∃ (s:List UInt8) (a mx:Int),s.length≤40∧0≤a∧a≤s.length∧(mx=0∨mx=1)∧r=[.int .i64 4,.str s,.emp 7,.emp 7,.emp 7,.int .i64 mx,.int .i64 a])
theorem b9v (x:Int): -2147483648≤IntKind.i32.wrap x∧IntKind.i32.wrap x≤2147483647:=by
 have e:IntKind.i32.wrap x=if x % 4294967296≥2147483648 then x % 4294967296 - 4294967296 else x % 4294967296:=by
  show (if (true&&decide (x % (2 ^ 32:Int)≥(2 ^ 31:Int)))=true then x % (2 ^ 32:Int) - (2 ^ 32:Int) else x % (2 ^ 32:Int))=_
  simp
 rw [e];split <;>omega
attribute [local irreducible] g8
section
variable (F:List PV→Prop) (Ok:Nat→List PV→Own→PV→Prop) (rows:List (List PV)) (K A B N:Int) (S:List UInt8) (hA:0≤A∧A<256) (hB:0≤B∧B<256)
variable (hO:∀ K' A' B' N' S',0≤A'∧A'<256→0≤B'∧B'<256→ -2147483648≤N'∧N'≤2147483647→∃ r,(F r∧a2Y r)∧Ok n5 [a1i K' A' B' N' S',.sl 7 rows] [] (.agg r))
variable (h65:∀ n,Ok s0 [.int .i64 n] [] (b5Y n)) (h66:∀ s,Ok A5 [.str s] [] (b6t s))
include hA hB hO h65 h66
set_option maxHeartbeats 4000000 in
theorem c5d (h0:(K.tmod 5==0)=true):∃ r,b0s F r∧fnW wG Ok noX noT noT 0 y8 [a1i K A B N S,.sl 7 rows] (.agg r):=by
 have _u:=And.intro hA (And.intro hB (And.intro hO (And.intro h65 h66)))
 have hm:0≤(if (40:Int)<S.length then (40:Int) else (S.length:Int))∧(if (40:Int)<S.length then (40:Int) else (S.length:Int))≤S.length:=by split <;>omega
 have hc:=b1Q S
 ·apply Exists.intro
  apply And.intro
  rotate_left
  ·conv=>whnf
   refine m0 (a4V (s:=S) (h:=if (40:Int)<S.length then (40:Int) else (S.length:Int)) (by rfl) (by rfl) hm.1 hm.2) ?_
   conv=>whnf
   refine y7 h0 ?_
   conv=>whnf
   refine y7 h0 ?_
   conv=>whnf
  ·exact .inl ⟨_,hc,rfl⟩
set_option maxHeartbeats 4000000 in
theorem c5e (h0:(K.tmod 5==0)=false) (h1:(K.tmod 5==1)=true):∃ r,b0s F r∧fnW wG Ok noX noT noT 0 y8 [a1i K A B N S,.sl 7 rows] (.agg r):=by
 have _u:=And.intro hA (And.intro hB (And.intro hO (And.intro h65 h66)))
 have hm:0≤(if (40:Int)<S.length then (40:Int) else (S.length:Int))∧(if (40:Int)<S.length then (40:Int) else (S.length:Int))≤S.length:=by split <;>omega
 have hc:=b1Q S
 ·apply Exists.intro
  apply And.intro
  rotate_left
  ·conv=>whnf
   refine m0 (a4V (s:=S) (h:=if (40:Int)<S.length then (40:Int) else (S.length:Int)) (by rfl) (by rfl) hm.1 hm.2) ?_
   conv=>whnf
   refine F5 h0 ?_
   conv=>whnf
   refine y7 h1 ?_
   conv=>whnf
  ·exact .inl ⟨_,hc,rfl⟩
set_option maxHeartbeats 4000000 in
theorem c5h (h0:(K.tmod 5==0)=false) (h1:(K.tmod 5==1)=false) (h2:(K.tmod 5==2)=false) (h3:(K.tmod 5==3)=false):∃ r,b0s F r∧fnW wG Ok noX noT noT 0 y8 [a1i K A B N S,.sl 7 rows] (.agg r):=by
 have _u:=And.intro hA (And.intro hB (And.intro hO (And.intro h65 h66)))
 have hm:0≤(if (40:Int)<S.length then (40:Int) else (S.length:Int))∧(if (40:Int)<S.length then (40:Int) else (S.length:Int))≤S.length:=by split <;>omega
 have hc:=b1Q S
 have hne:IntKind.i64.wrap (((b3Q S).length:Int)+1)≠0:=by rw [wrap_small (by omega) (by omega)];omega
 ·apply Exists.intro
  apply And.intro
  rotate_left
  ·conv=>whnf
   refine m0 (a4V (s:=S) (h:=if (40:Int)<S.length then (40:Int) else (S.length:Int)) (by rfl) (by rfl) hm.1 hm.2) ?_
   conv=>whnf
   refine F5 h0 ?_
   conv=>whnf
   refine F5 h1 ?_
   conv=>whnf
   refine F5 h2 ?_
   conv=>whnf
   refine F5 h3 ?_
   conv=>whnf
   refine m0 (B9 (k:=.i64) (a:=IntKind.i64.wrap A) (by rfl) (by rfl) hne) ?_
   conv=>whnf
   refine y7 (by kernel_rfl) ?_
   conv=>whnf
  ·refine .inr (.inr (.inr ⟨_,_,_,hc,?_,?_,?_,rfl⟩))
   ·exact Int.tmod_nonneg _ (by rw [wrap_small (by omega) (by omega)];exact hA.1)
   ·have e:IntKind.i64.wrap (((b3Q S).length:Int)+1)=((b3Q S).length:Int)+1:=wrap_small (by omega) (by omega)
    have q:=Int.tmod_lt_of_pos (IntKind.i64.wrap A) (show 0<IntKind.i64.wrap (((b3Q S).length:Int)+1) by rw [e];omega)
    rw [e] at q ⊢
    exact Int.lt_add_one_iff.1 q
   ·have r2:0≤B.tmod 2∧B.tmod 2<2:=⟨Int.tmod_nonneg _ hB.1,Int.tmod_lt_of_pos _ (by decide)⟩
    rw [wrap_small (by omega) (by omega)]
    omega
end
end Go.Ab.Td
namespace Go.Ab.Td
set_option maxRecDepth 100000
set_option maxRecDepth 100000
open Go Go.Ab
attribute [local irreducible] g8
set_option maxHeartbeats 4000000 in
theorem c5f (F:List PV→Prop) (Ok:Nat→List PV→Own→PV→Prop) (rows:List (List PV)) (K A B N:Int) (S:List UInt8) (hA:0≤A∧A<256)
 (hO:∀ K' A' B' N' S',0≤A'∧A'<256→0≤B'∧B'<256→ -2147483648≤N'∧N'≤2147483647→∃ r,(F r∧a2Y r)∧Ok n5 [a1i K' A' B' N' S',.sl 7 rows] [] (.agg r))
 (h0:(K.tmod 5==0)=false) (h1:(K.tmod 5==1)=false) (h2:(K.tmod 5==2)=true):∃ r,b0s F r∧fnW wG Ok noX noT noT 0 y8 [a1i K A B N S,.sl 7 rows] (.agg r):=by
 have hm:0≤(if (40:Int)<S.length then (40:Int) else (S.length:Int))∧(if (40:Int)<S.length then (40:Int) else (S.length:Int))≤S.length:=by split <;>omega
 obtain ⟨f,hf⟩:=Classical.axiomOfChoice (fun i:Nat=>hO _ _ (IntKind.i32.wrap (N.tdiv (IntKind.i32.wrap (IntKind.i64.wrap ((i:Int)+1))))) [] (b2Z (A+IntKind.u8.wrap (i:Int))) (b2Z (B*IntKind.u8.wrap (IntKind.i64.wrap ((i:Int)+1)))) (b9v _) (K':=IntKind.u8.wrap (B+IntKind.u8.wrap (IntKind.i64.wrap (5*(i:Int))))))
 obtain ⟨a,ha⟩:∃ a:Nat,A.tmod 6=a:=⟨(A.tmod 6).toNat,by have:=Int.tmod_nonneg 6 hA.1;omega⟩
 have ha6:a<6:=by have:=Int.tmod_lt_of_pos A (show (0:Int)<6 by decide);omega
 have hw:IntKind.i64.wrap (A.tmod 6)=a:=by rw [ha,wrap_small (by omega) (by omega)]
 let items:List (List PV):=(List.range a).map f
 refine ⟨[.int .i64 2,.str [],match items with | []=>.emp 7 | x::L=>.sl 7 (((x::L).drop 0).take a),.emp 7,.emp 7,.int .i64 0,.int .i64 0],?_,?_⟩
 ·have hit:∀ x ∈ items,F x:=by
   intro x hx
   obtain ⟨i,_,rfl⟩:=List.mem_map.1 hx
   exact (hf i).1.1
  have hil:items.length=a:=by simp [items]
  refine .inr (.inl ⟨_,a,by omega,?_,rfl⟩)
  revert hit hil
  generalize items=L
  intro hit hil
  cases L with
  | nil=>exact .inl ⟨rfl,by simpa using hil.symm⟩
  | cons x L=>
    refine .inr ⟨_,rfl,?_,?_⟩
    ·simp only [List.drop_zero,List.length_take];omega
    ·intro y hy
     exact hit y (List.mem_of_mem_take (by simpa using hy))
 ·conv=>whnf
  refine m0 (a4V (s:=S) (h:=if (40:Int)<S.length then (40:Int) else (S.length:Int)) (by rfl) (by rfl) hm.1 hm.2) ?_
  conv=>whnf
  refine F5 h0 ?_
  conv=>whnf
  refine F5 h1 ?_
  conv=>whnf
  refine y7 h2 ?_
  conv=>whnf
  intro X hX _
  have key:∀ (m i:Nat) (s:St),i+m=a→norm [1,2,4,6,7] s=cSt rows K A B N S (i:Int) i ((List.range i).map f)→X s:=by
   intro m
   induction m with
   | zero=>
     intro i s hi hs
     refine z8 hX s ?_
     rw [hs]
     have hia:i=a:=by omega
     subst hia
     have hlt:decide ((i:Int)<IntKind.i64.wrap (A.tmod 6))=false:=by rw [hw];simp
     show aw wG Ok _ true _ _ (cSt rows K A B N S (i:Int) i items)
     generalize items=L
     cases L with
     | nil=>
       conv=>whnf
       refine F5 hlt ?_
       conv=>whnf
     | cons x L=>
       conv=>whnf
       refine F5 hlt ?_
       conv=>whnf
   | succ m ih=>
     intro i s hi hs
     refine z8 hX s ?_
     rw [hs]
     obtain ⟨⟨_,q1,q2,q3,q4,q5,q6,q7,hqn,hfi⟩,hp⟩:=hf i
     have hlt:decide ((i:Int)<IntKind.i64.wrap (A.tmod 6))=true:=by rw [hw];simp;omega
     have hb:IntKind.i32.wrap (IntKind.i64.wrap ((i:Int)+1))≠0:=by rw [wrap_small (by omega) (by omega),b5J (by omega) (by omega)];omega
     have hnext:(List.range (i+1)).map f=(List.range i).map f++[f i]:=by simp [List.range_succ]
     have hw1:IntKind.i64.wrap ((i:Int)+1)=((i+1:Nat):Int):=by rw [wrap_small (by omega) (by omega)];omega
     have hgo:∀ s',norm [1,2,4,6,7] s'=cSt rows K A B N S (IntKind.i64.wrap ((i:Int)+1)) (i+1) ((List.range i).map f++[f i])→X s':=fun s' h=>ih (i+1) s' (by omega) (by rw [h,hw1,hnext])
     have hlen:((List.range i).map f).length=i:=by simp
     clear hnext ih hs
     rw [hfi] at hgo hp
     generalize (List.range i).map f=L at hgo hlen ⊢
     cases L with
     | nil=>
       conv=>whnf
       refine y7 hlt ?_
       conv=>whnf
       refine m0 (B8 (k:=.i32) (by rfl) (by rfl) hb) ?_
       conv=>whnf
       refine y7 (by kernel_rfl) ?_
       conv=>whnf
       refine ⟨_,_,hp,?_⟩
       conv=>whnf
       refine y7 (by kernel_rfl) ?_
       conv=>whnf
       simp only [List.length_nil] at hlen
       subst hlen
       exact hgo _ rfl
     | cons x L=>
       conv=>whnf
       refine y7 hlt ?_
       conv=>whnf
       refine m0 (B8 (k:=.i32) (by rfl) (by rfl) hb) ?_
       conv=>whnf
       refine y7 (by kernel_rfl) ?_
       conv=>whnf
       refine ⟨_,_,hp,?_⟩
       conv=>whnf
       refine m0 (b1K (L:=x::L) (c:=i) (xs:=[[.int .i64 q1,.bool q2,.int .i64 q3,.str q4,.int .i64 q5,.int .i64 q6,.int .i64 q7]]) (by rfl) hlen (by rfl) (by rfl) (by simp;omega)) ?_
       conv=>whnf
       refine y7 (by kernel_rfl) ?_
       conv=>whnf
       exact hgo _ rfl
  exact key a 0 _ (by omega) rfl
end Go.Ab.Td
