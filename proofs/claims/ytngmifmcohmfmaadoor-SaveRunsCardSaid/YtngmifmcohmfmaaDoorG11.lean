/- A part of the proof: the texts TdVa, TdVb, TdVc, TdHeap. Under: nothing. -/
import Derived.Test.YtngmifmcohmfmaaDoorG10
namespace Go.Ab.Td
set_option maxRecDepth 100000
set_option maxRecDepth 100000
open Go Go.Ab
def SlF (F:List PV→Prop) (q:PV) (m:Nat):Prop:=(q= .emp 7∧m=0)∨∃ rr:List (List PV),q= .sl 7 rr∧rr.length=m∧∀ x ∈ rr,F x
def SlK (q:PV) (m:Nat):Prop:=(q= .emp 7∧m=0)∨q= .sl 7 ((List.range m).map fun i:Nat=>a8a (a7a (i:Int)))
def b0Y (F:List PV→Prop) (r:List PV):Prop:=
 (∃ s:List UInt8,s.length≤40∧r=[.int .i64 1,.str s,.emp 7,.emp 7,.emp 7,.int .i64 0,.int .i64 0])∨
 (∃ (q:PV) (m:Nat),m≤5∧SlF F q m∧r=[.int .i64 2,.str [],q,.emp 7,.emp 7,.int .i64 0,.int .i64 0])∨
 (∃ (qk qv:PV) (m mx:Nat),m≤mx∧mx≤5∧SlK qk m∧SlF F qv m∧r=[.int .i64 3,.str [],.emp 7,qk,qv,.int .i64 (mx:Int),.int .i64 0])∨
 (∃ (s:List UInt8) (a mx:Int),s.length≤40∧0≤a∧a≤s.length∧(mx=0∨mx=1)∧r=[.int .i64 4,.str s,.emp 7,.emp 7,.emp 7,.int .i64 mx,.int .i64 a])
theorem c1s (x:Int): -2147483648≤IntKind.i32.wrap x∧IntKind.i32.wrap x≤2147483647:=by
 have e:IntKind.i32.wrap x=if x % 4294967296≥2147483648 then x % 4294967296 - 4294967296 else x % 4294967296:=by
  show (if (true&&decide (x % (2 ^ 32:Int)≥(2 ^ 31:Int)))=true then x % (2 ^ 32:Int) - (2 ^ 32:Int) else x % (2 ^ 32:Int))=_
  simp
 rw [e];split <;>omega
attribute [local irreducible] f0
section
variable (F:List PV→Prop) (Ok:Nat→List PV→Own→PV→Prop) (rows:List (List PV)) (K A B N:Int) (S:List UInt8) (hA:0≤A∧A<256) (hB:0≤B∧B<256)
variable (hO:∀ K' A' B' N' S',0≤A'∧A'<256→0≤B'∧B'<256→ -2147483648≤N'∧N'≤2147483647→∃ r,(F r∧a3G r)∧Ok e6 [C6 K' A' B' N' S',.sl 7 rows] [] (.agg r))
variable (h65:∀ n,Ok l8 [.int .i64 n] [] (b7q n)) (h66:∀ s,Ok w9 [.str s] [] (b6V s))
include hA hB hO h65 h66
set_option maxHeartbeats 4000000 in
theorem c5J (h0:(K.tmod 5==0)=true):∃ r,b0Y F r∧fnW wG Ok noX noT noT 0 y3 [C6 K A B N S,.sl 7 rows] (.agg r):=by
 have _u:=And.intro hA (And.intro hB (And.intro hO (And.intro h65 h66)))
 have hm:0≤(if (40:Int)<S.length then (40:Int) else (S.length:Int))∧(if (40:Int)<S.length then (40:Int) else (S.length:Int))≤S.length:=by split <;>omega
 have hc:=b2P S
 ·apply Exists.intro
  apply And.intro
  rotate_left
  ·conv=>whnf
   refine j4 (a5a (s:=S) (h:=if (40:Int)<S.length then (40:Int) else (S.length:Int)) (by rfl) (by rfl) hm.1 hm.2) ?_
   conv=>whnf
   refine y1 h0 ?_
   conv=>whnf
   refine y1 h0 ?_
   conv=>whnf
  ·exact .inl ⟨_,hc,rfl⟩
set_option maxHeartbeats 4000000 in
theorem c6l (h0:(K.tmod 5==0)=false) (h1:(K.tmod 5==1)=true):∃ r,b0Y F r∧fnW wG Ok noX noT noT 0 y3 [C6 K A B N S,.sl 7 rows] (.agg r):=by
 have _u:=And.intro hA (And.intro hB (And.intro hO (And.intro h65 h66)))
 have hm:0≤(if (40:Int)<S.length then (40:Int) else (S.length:Int))∧(if (40:Int)<S.length then (40:Int) else (S.length:Int))≤S.length:=by split <;>omega
 have hc:=b2P S
 ·apply Exists.intro
  apply And.intro
  rotate_left
  ·conv=>whnf
   refine j4 (a5a (s:=S) (h:=if (40:Int)<S.length then (40:Int) else (S.length:Int)) (by rfl) (by rfl) hm.1 hm.2) ?_
   conv=>whnf
   refine F5 h0 ?_
   conv=>whnf
   refine y1 h1 ?_
   conv=>whnf
  ·exact .inl ⟨_,hc,rfl⟩
set_option maxHeartbeats 4000000 in
theorem c6s (h0:(K.tmod 5==0)=false) (h1:(K.tmod 5==1)=false) (h2:(K.tmod 5==2)=false) (h3:(K.tmod 5==3)=false):∃ r,b0Y F r∧fnW wG Ok noX noT noT 0 y3 [C6 K A B N S,.sl 7 rows] (.agg r):=by
 have _u:=And.intro hA (And.intro hB (And.intro hO (And.intro h65 h66)))
 have hm:0≤(if (40:Int)<S.length then (40:Int) else (S.length:Int))∧(if (40:Int)<S.length then (40:Int) else (S.length:Int))≤S.length:=by split <;>omega
 have hc:=b2P S
 have hne:IntKind.i64.wrap (((b4Q S).length:Int)+1)≠0:=by rw [wrap_small (by omega) (by omega)];omega
 ·apply Exists.intro
  apply And.intro
  rotate_left
  ·conv=>whnf
   refine j4 (a5a (s:=S) (h:=if (40:Int)<S.length then (40:Int) else (S.length:Int)) (by rfl) (by rfl) hm.1 hm.2) ?_
   conv=>whnf
   refine F5 h0 ?_
   conv=>whnf
   refine F5 h1 ?_
   conv=>whnf
   refine F5 h2 ?_
   conv=>whnf
   refine F5 h3 ?_
   conv=>whnf
   refine j4 (a3k (k:=.i64) (a:=IntKind.i64.wrap A) (by rfl) (by rfl) hne) ?_
   conv=>whnf
   refine y1 (by kernel_rfl) ?_
   conv=>whnf
  ·refine .inr (.inr (.inr ⟨_,_,_,hc,?_,?_,?_,rfl⟩))
   ·exact Int.tmod_nonneg _ (by rw [wrap_small (by omega) (by omega)];exact hA.1)
   ·have e:IntKind.i64.wrap (((b4Q S).length:Int)+1)=((b4Q S).length:Int)+1:=wrap_small (by omega) (by omega)
    have q:=Int.tmod_lt_of_pos (IntKind.i64.wrap A) (show 0<IntKind.i64.wrap (((b4Q S).length:Int)+1) by rw [e];omega)
    rw [e] at q ⊢
    exact Int.lt_add_one_iff.1 q
   ·have r2:0≤B.tmod 2∧B.tmod 2<2:=⟨Int.tmod_nonneg _ hB.1,Int.tmod_lt_of_pos _ (by decide)⟩
    rw [wrap_small (by omega) (by omega)]
    omega
end
end Go.Ab.Td
namespace Go.Ab.Td
set_option maxRecDepth 100000
set_option maxRecDepth 100000
open Go Go.Ab
attribute [local irreducible] f0
set_option maxHeartbeats 4000000 in
theorem c6b (F:List PV→Prop) (Ok:Nat→List PV→Own→PV→Prop) (rows:List (List PV)) (K A B N:Int) (S:List UInt8) (hA:0≤A∧A<256)
 (hO:∀ K' A' B' N' S',0≤A'∧A'<256→0≤B'∧B'<256→ -2147483648≤N'∧N'≤2147483647→∃ r,(F r∧a3G r)∧Ok e6 [C6 K' A' B' N' S',.sl 7 rows] [] (.agg r))
 (h0:(K.tmod 5==0)=false) (h1:(K.tmod 5==1)=false) (h2:(K.tmod 5==2)=true):∃ r,b0Y F r∧fnW wG Ok noX noT noT 0 y3 [C6 K A B N S,.sl 7 rows] (.agg r):=by
 have hm:0≤(if (40:Int)<S.length then (40:Int) else (S.length:Int))∧(if (40:Int)<S.length then (40:Int) else (S.length:Int))≤S.length:=by split <;>omega
 obtain ⟨f,hf⟩:=Classical.axiomOfChoice (fun i:Nat=>hO _ _ (IntKind.i32.wrap (N.tdiv (IntKind.i32.wrap (IntKind.i64.wrap ((i:Int)+1))))) [] (b3z (A+IntKind.u8.wrap (i:Int))) (b3z (B*IntKind.u8.wrap (IntKind.i64.wrap ((i:Int)+1)))) (c1s _) (K':=IntKind.u8.wrap (B+IntKind.u8.wrap (IntKind.i64.wrap (5*(i:Int))))))
 obtain ⟨a,ha⟩:∃ a:Nat,A.tmod 6=a:=⟨(A.tmod 6).toNat,by have:=Int.tmod_nonneg 6 hA.1;omega⟩
 have ha6:a<6:=by have:=Int.tmod_lt_of_pos A (show (0:Int)<6 by decide);omega
 have hw:IntKind.i64.wrap (A.tmod 6)=a:=by rw [ha,wrap_small (by omega) (by omega)]
 let items:List (List PV):=(List.range a).map f
 refine ⟨[.int .i64 2,.str [],match items with | []=>.emp 7 | x::L=>.sl 7 (((x::L).drop 0).take a),.emp 7,.emp 7,.int .i64 0,.int .i64 0],?_,?_⟩
 ·have hit:∀ x ∈ items,F x:=by
   intro x hx
   obtain ⟨i,_,rfl⟩:=List.mem_map.1 hx
   exact (hf i).1.1
  have hil:items.length=a:=by simp [items]
  refine .inr (.inl ⟨_,a,by omega,?_,rfl⟩)
  revert hit hil
  generalize items=L
  intro hit hil
  cases L with
  | nil=>exact .inl ⟨rfl,by simpa using hil.symm⟩
  | cons x L=>
    refine .inr ⟨_,rfl,?_,?_⟩
    ·simp only [List.drop_zero,List.length_take];omega
    ·intro y hy
     exact hit y (List.mem_of_mem_take (by simpa using hy))
 ·conv=>whnf
  refine j4 (a5a (s:=S) (h:=if (40:Int)<S.length then (40:Int) else (S.length:Int)) (by rfl) (by rfl) hm.1 hm.2) ?_
  conv=>whnf
  refine F5 h0 ?_
  conv=>whnf
  refine F5 h1 ?_
  conv=>whnf
  refine y1 h2 ?_
  conv=>whnf
  intro X hX _
  have key:∀ (m i:Nat) (s:St),i+m=a→norm [1,2,4,6,7] s=cSt rows K A B N S (i:Int) i ((List.range i).map f)→X s:=by
   intro m
   induction m with
   | zero=>
     intro i s hi hs
     refine y7 hX s ?_
     rw [hs]
     have hia:i=a:=by omega
     subst hia
     have hlt:decide ((i:Int)<IntKind.i64.wrap (A.tmod 6))=false:=by rw [hw];simp
     show aw wG Ok _ true _ _ (cSt rows K A B N S (i:Int) i items)
     generalize items=L
     cases L with
     | nil=>
       conv=>whnf
       refine F5 hlt ?_
       conv=>whnf
     | cons x L=>
       conv=>whnf
       refine F5 hlt ?_
       conv=>whnf
   | succ m ih=>
     intro i s hi hs
     refine y7 hX s ?_
     rw [hs]
     obtain ⟨⟨_,q1,q2,q3,q4,q5,q6,q7,hqn,hfi⟩,hp⟩:=hf i
     have hlt:decide ((i:Int)<IntKind.i64.wrap (A.tmod 6))=true:=by rw [hw];simp;omega
     have hb:IntKind.i32.wrap (IntKind.i64.wrap ((i:Int)+1))≠0:=by rw [wrap_small (by omega) (by omega),b5V (by omega) (by omega)];omega
     have hnext:(List.range (i+1)).map f=(List.range i).map f++[f i]:=by simp [List.range_succ]
     have hw1:IntKind.i64.wrap ((i:Int)+1)=((i+1:Nat):Int):=by rw [wrap_small (by omega) (by omega)];omega
     have hgo:∀ s',norm [1,2,4,6,7] s'=cSt rows K A B N S (IntKind.i64.wrap ((i:Int)+1)) (i+1) ((List.range i).map f++[f i])→X s':=fun s' h=>ih (i+1) s' (by omega) (by rw [h,hw1,hnext])
     have hlen:((List.range i).map f).length=i:=by simp
     clear hnext ih hs
     rw [hfi] at hgo hp
     generalize (List.range i).map f=L at hgo hlen ⊢
     cases L with
     | nil=>
       conv=>whnf
       refine y1 hlt ?_
       conv=>whnf
       refine j4 (a8x (k:=.i32) (by rfl) (by rfl) hb) ?_
       conv=>whnf
       refine y1 (by kernel_rfl) ?_
       conv=>whnf
       refine ⟨_,_,hp,?_⟩
       conv=>whnf
       refine y1 (by kernel_rfl) ?_
       conv=>whnf
       simp only [List.length_nil] at hlen
       subst hlen
       exact hgo _ rfl
     | cons x L=>
       conv=>whnf
       refine y1 hlt ?_
       conv=>whnf
       refine j4 (a8x (k:=.i32) (by rfl) (by rfl) hb) ?_
       conv=>whnf
       refine y1 (by kernel_rfl) ?_
       conv=>whnf
       refine ⟨_,_,hp,?_⟩
       conv=>whnf
       refine j4 (b3e (L:=x::L) (c:=i) (xs:=[[.int .i64 q1,.bool q2,.int .i64 q3,.str q4,.int .i64 q5,.int .i64 q6,.int .i64 q7]]) (by rfl) hlen (by rfl) (by rfl) (by simp;omega)) ?_
       conv=>whnf
       refine y1 (by kernel_rfl) ?_
       conv=>whnf
       exact hgo _ rfl
  exact key a 0 _ (by omega) rfl
end Go.Ab.Td
namespace Go.Ab.Td
set_option maxRecDepth 100000
set_option maxRecDepth 100000
open Go Go.Ab
attribute [local irreducible] f0
set_option maxHeartbeats 4000000 in
theorem c6G (F:List PV→Prop) (Ok:Nat→List PV→Own→PV→Prop) (rows:List (List PV)) (K A B N:Int) (S:List UInt8) (hA:0≤A∧A<256) (hB:0≤B∧B<256) (hN: -2147483648≤N∧N≤2147483647)
 (hO:∀ K' A' B' N' S',0≤A'∧A'<256→0≤B'∧B'<256→ -2147483648≤N'∧N'≤2147483647→∃ r,(F r∧a3G r)∧Ok e6 [C6 K' A' B' N' S',.sl 7 rows] [] (.agg r))
 (h65:∀ n,Ok l8 [.int .i64 n] [] (b7q n)) (h66:∀ s,Ok w9 [.str s] [] (b6V s))
 (h0:(K.tmod 5==0)=false) (h1:(K.tmod 5==1)=false) (h2:(K.tmod 5==2)=false) (h3:(K.tmod 5==3)=true):∃ r,b0Y F r∧fnW wG Ok noX noT noT 0 y3 [C6 K A B N S,.sl 7 rows] (.agg r):=by
 have hm:0≤(if (40:Int)<S.length then (40:Int) else (S.length:Int))∧(if (40:Int)<S.length then (40:Int) else (S.length:Int))≤S.length:=by split <;>omega
 obtain ⟨f,hf⟩:=Classical.axiomOfChoice (fun i:Nat=>hO _ _ N [] (b3z (A+IntKind.u8.wrap (i:Int))) hB hN (K':=IntKind.u8.wrap (B+IntKind.u8.wrap (IntKind.i64.wrap (3*(i:Int))))))
 obtain ⟨a,ha⟩:∃ a:Nat,A.tmod 6=a:=⟨(A.tmod 6).toNat,by have:=Int.tmod_nonneg 6 hA.1;omega⟩
 have ha6:a<6:=by have:=Int.tmod_lt_of_pos A (show (0:Int)<6 by decide);omega
 have hw:IntKind.i64.wrap (A.tmod 6)=a:=by rw [ha,wrap_small (by omega) (by omega)]
 obtain ⟨b,hb⟩:∃ b:Nat,B.tmod 4=b:=⟨(B.tmod 4).toNat,by have:=Int.tmod_nonneg 4 hB.1;omega⟩
 have hb4:b<4:=by have:=Int.tmod_lt_of_pos B (show (0:Int)<4 by decide);omega
 have hwb:IntKind.i64.wrap (B.tmod 4)=b:=by rw [hb,wrap_small (by omega) (by omega)]
 let n:=min a b
 let g:Nat→List PV:=fun i=>a8a (a7a (i:Int))
 let vs:List (List PV):=(List.range n).map f
 let ks:List (List PV):=(List.range n).map g
 refine ⟨[.int .i64 3,.str [],.emp 7,match vs with | []=>.emp 7 | _::_=>.sl 7 ((ks.drop 0).take n),match vs with | []=>.emp 7 | x::L=>.sl 7 (((x::L).drop 0).take n),.int .i64 (IntKind.i64.wrap (A.tmod 6)),.int .i64 0],?_,?_⟩
 ·have hit:∀ x ∈ vs,F x:=by
   intro x hx
   obtain ⟨i,_,rfl⟩:=List.mem_map.1 hx
   exact (hf i).1.1
  have hil:vs.length=n:=by simp [vs]
  have hkl:ks.length=n:=by simp [ks]
  have hn:n≤a:=by simp only [n];omega
  refine .inr (.inr (.inl ⟨_,_,n,a,hn,by omega,?_,?_,by rw [hw]⟩))
  ·revert hit hil
   generalize vs=L
   intro hit hil
   cases L with
   | nil=>exact .inl ⟨rfl,by simpa using hil.symm⟩
   | cons x L=>
     refine .inr ?_
     show PV.sl 7 ((ks.drop 0).take n)=PV.sl 7 ks
     rw [List.drop_zero,← hkl,List.take_length]
  ·revert hit hil
   generalize vs=L
   intro hit hil
   cases L with
   | nil=>exact .inl ⟨rfl,by simpa using hil.symm⟩
   | cons x L=>
     refine .inr ⟨_,rfl,?_,?_⟩
     ·simp only [List.drop_zero,List.length_take];omega
     ·intro y hy
      exact hit y (List.mem_of_mem_take (by simpa using hy))
 ·have h65':=h65 (IntKind.i64.wrap (A.tmod 6))
  conv=>whnf
  refine j4 (a5a (s:=S) (h:=if (40:Int)<S.length then (40:Int) else (S.length:Int)) (by rfl) (by rfl) hm.1 hm.2) ?_
  conv=>whnf
  refine F5 h0 ?_
  conv=>whnf
  refine F5 h1 ?_
  conv=>whnf
  refine F5 h2 ?_
  conv=>whnf
  refine y1 h3 ?_
  conv=>whnf
  refine ⟨_,_,h65',?_⟩
  conv=>whnf
  intro X hX _
  have key:∀ (m i:Nat) (s:St),i+m=n→norm [1,2,4,9,10] s=dSt rows K A B N S (IntKind.i64.wrap (A.tmod 6)) (i:Int) i ((List.range i).map g) ((List.range i).map f)→X s:=by
   intro m
   induction m with
   | zero=>
     intro i s hi hs
     refine y7 hX s ?_
     rw [hs]
     have hia:i=n:=by omega
     subst hia
     have hlt2:decide ((n:Int)<IntKind.i64.wrap (B.tmod 4))=true→decide ((n:Int)<IntKind.i64.wrap (A.tmod 6))=false:=by rw [hw,hwb];simp only [n,decide_eq_true_eq,decide_eq_false_iff_not];omega
     show aw wG Ok _ true _ _ (dSt rows K A B N S (IntKind.i64.wrap (A.tmod 6)) (n:Int) n ks vs)
     generalize IntKind.i64.wrap (A.tmod 6)=am at hlt2 ⊢
     generalize vs=L
     cases hlt:decide ((n:Int)<IntKind.i64.wrap (B.tmod 4)) with
     | true=>
       have hlt3:=hlt2 hlt
       cases L with
       | nil=>
         conv=>whnf
         rw [hlt]
         conv=>whnf
         refine F5 hlt3 ?_
         conv=>whnf
       | cons x L=>
         conv=>whnf
         rw [hlt]
         conv=>whnf
         refine F5 hlt3 ?_
         conv=>whnf
     | false=>
       cases L with
       | nil=>
         conv=>whnf
         rw [hlt]
         conv=>whnf
       | cons x L=>
         conv=>whnf
         rw [hlt]
         conv=>whnf
   | succ m ih=>
     intro i s hi hs
     refine y7 hX s ?_
     rw [hs]
     have hin:i<a∧i<b:=by simp only [n] at hi;omega
     obtain ⟨⟨_,q1,q2,q3,q4,q5,q6,q7,hqn,hfi⟩,hp⟩:=hf i
     have hltA:decide ((i:Int)<IntKind.i64.wrap (A.tmod 6))=true:=by rw [hw];simp;omega
     have hltB:decide ((i:Int)<IntKind.i64.wrap (B.tmod 4))=true:=by rw [hwb];simp;omega
     have hnextf:(List.range (i+1)).map f=(List.range i).map f++[f i]:=by simp [List.range_succ]
     have hnextg:(List.range (i+1)).map g=(List.range i).map g++[a8a (a7a (i:Int))]:=by simp [List.range_succ,g]
     have hw1:IntKind.i64.wrap ((i:Int)+1)=((i+1:Nat):Int):=by rw [wrap_small (by omega) (by omega)];omega
     have hgo:∀ s',norm [1,2,4,9,10] s'=dSt rows K A B N S (IntKind.i64.wrap (A.tmod 6)) (IntKind.i64.wrap ((i:Int)+1)) (i+1) ((List.range i).map g++[a8a (a7a (i:Int))]) ((List.range i).map f++[f i])→X s':=fun s' h=>ih (i+1) s' (by omega) (by rw [h,hw1,hnextf,hnextg])
     have hlen:((List.range i).map f).length=i:=by simp
     have hlenk:((List.range i).map g).length=i:=by simp
     obtain ⟨wl,hwl⟩:=c0Z (i:=(i:Int)) (by omega) (by omega)
     clear hnextf hnextg ih hs
     rw [hfi] at hgo hp
     generalize IntKind.i64.wrap (A.tmod 6)=am at hltA hgo ⊢
     generalize (List.range i).map f=L at hgo hlen ⊢
     generalize (List.range i).map g=Lk at hgo hlenk ⊢
     cases L with
     | nil=>
       simp only [List.length_nil] at hlen
       subst hlen
       obtain rfl:=List.length_eq_zero_iff.1 hlenk
       conv=>whnf
       rw [hltB]
       conv=>whnf
       refine y1 hltA ?_
       conv=>whnf
       refine ⟨_,_,h66 _,?_⟩
       conv=>whnf
       refine y1 (by kernel_rfl) ?_
       conv=>whnf
       refine ⟨_,_,hp,?_⟩
       conv=>whnf
       refine y1 (by kernel_rfl) ?_
       conv=>whnf
       exact hgo _ rfl
     | cons x L=>
       conv=>whnf
       rw [hltB]
       conv=>whnf
       refine y1 hltA ?_
       conv=>whnf
       refine j4 (b4Y (cs:=b0u) (by rfl) (by rfl) (by omega) (by omega)) ?_
       conv=>whnf
       refine j4 (b7h (by rfl) hwl) ?_
       conv=>whnf
       refine ⟨_,_,h66 _,?_⟩
       conv=>whnf
       refine j4 (O0 (L:=Lk) (c:=i) (xs:=[a8a (a7a (i:Int))]) (by rfl) hlenk (by rfl) (by rfl) (by simp;omega)) ?_
       conv=>whnf
       refine y1 (by kernel_rfl) ?_
       conv=>whnf
       refine ⟨_,_,hp,?_⟩
       conv=>whnf
       refine j4 (O0 (L:=x::L) (c:=i) (xs:=[[.int .i64 q1,.bool q2,.int .i64 q3,.str q4,.int .i64 q5,.int .i64 q6,.int .i64 q7]]) (by rfl) hlen (by rfl) (by rfl) (by simp;omega)) ?_
       conv=>whnf
       refine y1 (by kernel_rfl) ?_
       conv=>whnf
       exact hgo _ rfl
  exact key n 0 _ (by omega) rfl
end Go.Ab.Td
namespace Go.Ab.Td
set_option maxRecDepth 100000
set_option maxRecDepth 100000
open Go Go.Ab
def c7T (r:List PV):Prop:=∃ K A B N S,r=[.int .u8 K,.int .u8 A,.int .u8 B,.int .i32 N,.str S]∧(0≤A∧A<256)∧(0≤B∧B<256)
def hTm (n:Nat) (v:Int):T:=((T.nil.set d6 1 (.ptr 0 0 0)).set d6 3 (.own 1 0 n)).set d6 4 (.pv (.int .i64 v))
def hSt (cells ops e9:List (List PV)) (v:Int) (n:Nat) (rows:List (List PV)) (sl:Bool):St:=
 ⟨hTm n v,[(0,some (.box 3 [[.pv (.sl 5 cells),.pv (.sl 5 ops),.pv (.sl 1 e9)]] false)),(1,some (.arr 7 rows sl))],2,29⟩
def c2D (s:List UInt8):List PV:=[.int .i64 10,.bool true,.int .i64 0,.str s,.int .i64 0,.int .i64 0,.int .i64 0]
def a0c (n:Int):List PV:=[.int .i64 9,.bool false,.int .i64 0,.str [],.int .i64 n,.int .i64 0,.int .i64 0]
def b4a:List UInt8:=[97,100,100]
def b4i:List UInt8:=[112,111,112]
def b8Q:List (List UInt8):=[[70,111,110,116],[80,97,116,116,101,114,110],[69,110,99,111,100,105,110,103],[70,111,114,109],[71,101,110,101,114,105,99]]
def S5 (ks vs:PV) (m:Int):List PV:=[.int .i64 3,.str [],.emp 7,ks,vs,.int .i64 m,.int .i64 0]
def Y8:List (List PV):=[S5 (.sl 7 [a8a b4a,a8a b4i]) (.sl 7 [c2D b4a,c2D b4i]) 200,S5 (.emp 7) (.emp 7) 50,S5 (.emp 7) (.emp 7) 30,S5 (.emp 7) (.emp 7) 12,
 S5 (.sl 7 (b8Q.map a8a)) (.sl 7 [a0c 5,a0c 6,a0c 7,a0c 8,a0c 9]) 5,
 S5 (.emp 7) (.emp 7) 10,S5 (.emp 7) (.emp 7) 10,S5 (.emp 7) (.emp 7) 10,S5 (.emp 7) (.emp 7) 10,S5 (.emp 7) (.emp 7) 10]
theorem a2e (m:Int):a3q (S5 (.emp 7) (.emp 7) m):=⟨_,_,_,_,_,_,_,0,0,0,rfl,⟨by simp,fun hk=>⟨by simp,by first | rfl | exact absurd hk (by decide)⟩,fun _=>rfl⟩,SlR.none,SlR.none,SlR.none⟩
theorem a3G.i (k:Int) (e:Bool) (n:Int) (s:List UInt8) (rf o l:Int) (hn:n<9223372036854775808):a3G [.int .i64 k,.bool e,.int .i64 n,.str s,.int .i64 rf,.int .i64 o,.int .i64 l]:=⟨_,_,_,_,_,_,_,hn,rfl⟩
theorem b6W {ks vs:List (List PV)} {m:Int} (hk:∀ x ∈ ks,a3G x) (hv:∀ x ∈ vs,a3G x) (hk':ks.length≤1000) (hv':vs.length≤1000):a3q (S5 (.sl 7 ks) (.sl 7 vs) m):=
 ⟨_,_,_,_,_,_,_,0,ks.length,vs.length,rfl,⟨by simp,fun hk=>⟨by simp,by first | rfl | exact absurd hk (by decide)⟩,fun _=>rfl⟩,SlR.none,.inr ⟨_,rfl,rfl,hk',hk⟩,.inr ⟨_,rfl,rfl,hv',hv⟩⟩
theorem b2z:∀ r ∈ Y8,a3q r:=by
 intro r h
 simp only [Y8,List.mem_cons,List.not_mem_nil,or_false] at h
 rcases h with rfl | rfl | rfl | rfl | rfl | rfl | rfl | rfl | rfl | rfl
 ·exact b6W (by simp [a8a,a3G]) (by simp [c2D,a3G]) (by simp) (by simp)
 ·exact a2e _
 ·exact a2e _
 ·exact a2e _
 ·exact b6W (by simp [a8a,a3G,b8Q]) (by simp [a0c,a3G]) (by simp [b8Q]) (by simp)
 ·exact a2e _
 ·exact a2e _
 ·exact a2e _
 ·exact a2e _
 ·exact a2e _
def a5m (H:List (List PV)):Prop:=∃ more,H=Y8++more∧more.length≤10∧∀ r ∈ H,a3q r
attribute [local irreducible] f0
end Go.Ab.Td
