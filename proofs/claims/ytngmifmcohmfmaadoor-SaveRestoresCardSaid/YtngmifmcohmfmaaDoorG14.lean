/- A part of the proof: the texts TdVb, TdVc, TdVd, TdKk, TdKl, TdKm, TdVp, TdI, TdJ, TdK, TdSu. Under: nothing. -/
import Derived.Test.YtngmifmcohmfmaaDoorG13
import Derived.Test.YtngmifmcohmfmaaDoorG09
import Derived.Test.YtngmifmcohmfmaaDoorG11
import Derived.Test.YtngmifmcohmfmaaDoorG07
import Derived.Test.YtngmifmcohmfmaaDoorG10
set_option linter.unusedVariables false
namespace Go.Ab.Td
set_option maxRecDepth 100000
set_option maxRecDepth 100000
open Go Go.Ab
attribute [local irreducible] d8
set_option maxHeartbeats 4000000 in
theorem c5a (F:List PV→Prop) (Ok:Nat→List PV→Own→PV→Prop) (rows:List (List PV)) (K A B N:Int) (S:List UInt8) (hA:0≤A∧A<256)
 (hO:∀ K' A' B' N' S',0≤A'∧A'<256→0≤B'∧B'<256→ -2147483648≤N'∧N'≤2147483647→∃ r,(F r∧a2Q r)∧Ok c9 [B5 K' A' B' N' S',.sl 7 rows] [] (.agg r))
 (h0:(K.tmod 5==0)=false) (h1:(K.tmod 5==1)=false) (h2:(K.tmod 5==2)=true):∃ r,b0s F r∧fnW wG Ok noX noT noT 0 w7 [B5 K A B N S,.sl 7 rows] (.agg r):=by
 have hm:0≤(if (40:Int)<S.length then (40:Int) else (S.length:Int))∧(if (40:Int)<S.length then (40:Int) else (S.length:Int))≤S.length:=by split <;>omega
 obtain ⟨f,hf⟩:=Classical.axiomOfChoice (fun i:Nat=>hO _ _ (IntKind.i32.wrap (N.tdiv (IntKind.i32.wrap (IntKind.i64.wrap ((i:Int)+1))))) [] (b2U (A+IntKind.u8.wrap (i:Int))) (b2U (B*IntKind.u8.wrap (IntKind.i64.wrap ((i:Int)+1)))) (b9P _) (K':=IntKind.u8.wrap (B+IntKind.u8.wrap (IntKind.i64.wrap (5*(i:Int))))))
 obtain ⟨a,ha⟩:∃ a:Nat,A.tmod 6=a:=⟨(A.tmod 6).toNat,by have:=Int.tmod_nonneg 6 hA.1;omega⟩
 have ha6:a<6:=by have:=Int.tmod_lt_of_pos A (show (0:Int)<6 by decide);omega
 have hw:IntKind.i64.wrap (A.tmod 6)=a:=by rw [ha,wrap_small (by omega) (by omega)]
 let items:List (List PV):=(List.range a).map f
 refine ⟨[.int .i64 2,.str [],match items with | []=>.emp 7 | x::L=>.sl 7 (((x::L).drop 0).take a),.emp 7,.emp 7,.int .i64 0,.int .i64 0],?_,?_⟩
 ·have hit:∀ x ∈ items,F x:=by
   intro x hx
   obtain ⟨i,_,rfl⟩:=List.mem_map.1 hx
   exact (hf i).1.1
  have hil:items.length=a:=by simp [items]
  refine .inr (.inl ⟨_,a,by omega,?_,rfl⟩)
  revert hit hil
  generalize items=L
  intro hit hil
  cases L with
  | nil=>exact .inl ⟨rfl,by simpa using hil.symm⟩
  | cons x L=>
    refine .inr ⟨_,rfl,?_,?_⟩
    ·simp only [List.drop_zero,List.length_take];omega
    ·intro y hy
     exact hit y (List.mem_of_mem_take (by simpa using hy))
 ·conv=>whnf
  refine j1 (a4U (s:=S) (h:=if (40:Int)<S.length then (40:Int) else (S.length:Int)) (by rfl) (by rfl) hm.1 hm.2) ?_
  conv=>whnf
  refine E6 h0 ?_
  conv=>whnf
  refine E6 h1 ?_
  conv=>whnf
  refine w6 h2 ?_
  conv=>whnf
  intro X hX _
  have key:∀ (m i:Nat) (s:St),i+m=a→norm [1,2,4,6,7] s=cSt rows K A B N S (i:Int) i ((List.range i).map f)→X s:=by
   intro m
   induction m with
   | zero=>
     intro i s hi hs
     refine w9 hX s ?_
     rw [hs]
     have hia:i=a:=by omega
     subst hia
     have hlt:decide ((i:Int)<IntKind.i64.wrap (A.tmod 6))=false:=by rw [hw];simp
     show aw wG Ok _ true _ _ (cSt rows K A B N S (i:Int) i items)
     generalize items=L
     cases L with
     | nil=>
       conv=>whnf
       refine E6 hlt ?_
       conv=>whnf
     | cons x L=>
       conv=>whnf
       refine E6 hlt ?_
       conv=>whnf
   | succ m ih=>
     intro i s hi hs
     refine w9 hX s ?_
     rw [hs]
     obtain ⟨⟨_,q1,q2,q3,q4,q5,q6,q7,hqn,hfi⟩,hp⟩:=hf i
     have hlt:decide ((i:Int)<IntKind.i64.wrap (A.tmod 6))=true:=by rw [hw];simp;omega
     have hb:IntKind.i32.wrap (IntKind.i64.wrap ((i:Int)+1))≠0:=by rw [wrap_small (by omega) (by omega),b5J (by omega) (by omega)];omega
     have hnext:(List.range (i+1)).map f=(List.range i).map f++[f i]:=by simp [List.range_succ]
     have hw1:IntKind.i64.wrap ((i:Int)+1)=((i+1:Nat):Int):=by rw [wrap_small (by omega) (by omega)];omega
     have hgo:∀ s',norm [1,2,4,6,7] s'=cSt rows K A B N S (IntKind.i64.wrap ((i:Int)+1)) (i+1) ((List.range i).map f++[f i])→X s':=fun s' h=>ih (i+1) s' (by omega) (by rw [h,hw1,hnext])
     have hlen:((List.range i).map f).length=i:=by simp
     clear hnext ih hs
     rw [hfi] at hgo hp
     generalize (List.range i).map f=L at hgo hlen ⊢
     cases L with
     | nil=>
       conv=>whnf
       refine w6 hlt ?_
       conv=>whnf
       refine j1 (b0h (k:=.i32) (by rfl) (by rfl) hb) ?_
       conv=>whnf
       refine w6 (by kernel_rfl) ?_
       conv=>whnf
       refine ⟨_,_,hp,?_⟩
       conv=>whnf
       refine w6 (by kernel_rfl) ?_
       conv=>whnf
       simp only [List.length_nil] at hlen
       subst hlen
       exact hgo _ rfl
     | cons x L=>
       conv=>whnf
       refine w6 hlt ?_
       conv=>whnf
       refine j1 (b0h (k:=.i32) (by rfl) (by rfl) hb) ?_
       conv=>whnf
       refine w6 (by kernel_rfl) ?_
       conv=>whnf
       refine ⟨_,_,hp,?_⟩
       conv=>whnf
       refine j1 (b1G (L:=x::L) (c:=i) (xs:=[[.int .i64 q1,.bool q2,.int .i64 q3,.str q4,.int .i64 q5,.int .i64 q6,.int .i64 q7]]) (by rfl) hlen (by rfl) (by rfl) (by simp;omega)) ?_
       conv=>whnf
       refine w6 (by kernel_rfl) ?_
       conv=>whnf
       exact hgo _ rfl
  exact key a 0 _ (by omega) rfl
end Go.Ab.Td
namespace Go.Ab.Td
set_option maxRecDepth 100000
set_option maxRecDepth 100000
open Go Go.Ab
attribute [local irreducible] d8
set_option maxHeartbeats 4000000 in
theorem c5b (F:List PV→Prop) (Ok:Nat→List PV→Own→PV→Prop) (rows:List (List PV)) (K A B N:Int) (S:List UInt8) (hA:0≤A∧A<256) (hB:0≤B∧B<256) (hN: -2147483648≤N∧N≤2147483647)
 (hO:∀ K' A' B' N' S',0≤A'∧A'<256→0≤B'∧B'<256→ -2147483648≤N'∧N'≤2147483647→∃ r,(F r∧a2Q r)∧Ok c9 [B5 K' A' B' N' S',.sl 7 rows] [] (.agg r))
 (h65:∀ n,Ok l0 [.int .i64 n] [] (b5Y n)) (h66:∀ s,Ok v3 [.str s] [] (b6v s))
 (h0:(K.tmod 5==0)=false) (h1:(K.tmod 5==1)=false) (h2:(K.tmod 5==2)=false) (h3:(K.tmod 5==3)=true):∃ r,b0s F r∧fnW wG Ok noX noT noT 0 w7 [B5 K A B N S,.sl 7 rows] (.agg r):=by
 have hm:0≤(if (40:Int)<S.length then (40:Int) else (S.length:Int))∧(if (40:Int)<S.length then (40:Int) else (S.length:Int))≤S.length:=by split <;>omega
 obtain ⟨f,hf⟩:=Classical.axiomOfChoice (fun i:Nat=>hO _ _ N [] (b2U (A+IntKind.u8.wrap (i:Int))) hB hN (K':=IntKind.u8.wrap (B+IntKind.u8.wrap (IntKind.i64.wrap (3*(i:Int))))))
 obtain ⟨a,ha⟩:∃ a:Nat,A.tmod 6=a:=⟨(A.tmod 6).toNat,by have:=Int.tmod_nonneg 6 hA.1;omega⟩
 have ha6:a<6:=by have:=Int.tmod_lt_of_pos A (show (0:Int)<6 by decide);omega
 have hw:IntKind.i64.wrap (A.tmod 6)=a:=by rw [ha,wrap_small (by omega) (by omega)]
 obtain ⟨b,hb⟩:∃ b:Nat,B.tmod 4=b:=⟨(B.tmod 4).toNat,by have:=Int.tmod_nonneg 4 hB.1;omega⟩
 have hb4:b<4:=by have:=Int.tmod_lt_of_pos B (show (0:Int)<4 by decide);omega
 have hwb:IntKind.i64.wrap (B.tmod 4)=b:=by rw [hb,wrap_small (by omega) (by omega)]
 let n:=min a b
 let g:Nat→List PV:=fun i=>a7C (a6K (i:Int))
 let vs:List (List PV):=(List.range n).map f
 let ks:List (List PV):=(List.range n).map g
 refine ⟨[.int .i64 3,.str [],.emp 7,match vs with | []=>.emp 7 | _::_=>.sl 7 ((ks.drop 0).take n),match vs with | []=>.emp 7 | x::L=>.sl 7 (((x::L).drop 0).take n),.int .i64 (IntKind.i64.wrap (A.tmod 6)),.int .i64 0],?_,?_⟩
 ·have hit:∀ x ∈ vs,F x:=by
   intro x hx
   obtain ⟨i,_,rfl⟩:=List.mem_map.1 hx
   exact (hf i).1.1
  have hil:vs.length=n:=by simp [vs]
  have hkl:ks.length=n:=by simp [ks]
  have hn:n≤a:=by simp only [n];omega
  refine .inr (.inr (.inl ⟨_,_,n,a,hn,by omega,?_,?_,by rw [hw]⟩))
  ·revert hit hil
   generalize vs=L
   intro hit hil
   cases L with
   | nil=>exact .inl ⟨rfl,by simpa using hil.symm⟩
   | cons x L=>
     refine .inr ?_
     show PV.sl 7 ((ks.drop 0).take n)=PV.sl 7 ks
     rw [List.drop_zero,← hkl,List.take_length]
  ·revert hit hil
   generalize vs=L
   intro hit hil
   cases L with
   | nil=>exact .inl ⟨rfl,by simpa using hil.symm⟩
   | cons x L=>
     refine .inr ⟨_,rfl,?_,?_⟩
     ·simp only [List.drop_zero,List.length_take];omega
     ·intro y hy
      exact hit y (List.mem_of_mem_take (by simpa using hy))
 ·have h65':=h65 (IntKind.i64.wrap (A.tmod 6))
  conv=>whnf
  refine j1 (a4U (s:=S) (h:=if (40:Int)<S.length then (40:Int) else (S.length:Int)) (by rfl) (by rfl) hm.1 hm.2) ?_
  conv=>whnf
  refine E6 h0 ?_
  conv=>whnf
  refine E6 h1 ?_
  conv=>whnf
  refine E6 h2 ?_
  conv=>whnf
  refine w6 h3 ?_
  conv=>whnf
  refine ⟨_,_,h65',?_⟩
  conv=>whnf
  intro X hX _
  have key:∀ (m i:Nat) (s:St),i+m=n→norm [1,2,4,9,10] s=dSt rows K A B N S (IntKind.i64.wrap (A.tmod 6)) (i:Int) i ((List.range i).map g) ((List.range i).map f)→X s:=by
   intro m
   induction m with
   | zero=>
     intro i s hi hs
     refine w9 hX s ?_
     rw [hs]
     have hia:i=n:=by omega
     subst hia
     have hlt2:decide ((n:Int)<IntKind.i64.wrap (B.tmod 4))=true→decide ((n:Int)<IntKind.i64.wrap (A.tmod 6))=false:=by rw [hw,hwb];simp only [n,decide_eq_true_eq,decide_eq_false_iff_not];omega
     show aw wG Ok _ true _ _ (dSt rows K A B N S (IntKind.i64.wrap (A.tmod 6)) (n:Int) n ks vs)
     generalize IntKind.i64.wrap (A.tmod 6)=am at hlt2 ⊢
     generalize vs=L
     cases hlt:decide ((n:Int)<IntKind.i64.wrap (B.tmod 4)) with
     | true=>
       have hlt3:=hlt2 hlt
       cases L with
       | nil=>
         conv=>whnf
         rw [hlt]
         conv=>whnf
         refine E6 hlt3 ?_
         conv=>whnf
       | cons x L=>
         conv=>whnf
         rw [hlt]
         conv=>whnf
         refine E6 hlt3 ?_
         conv=>whnf
     | false=>
       cases L with
       | nil=>
         conv=>whnf
         rw [hlt]
         conv=>whnf
       | cons x L=>
         conv=>whnf
         rw [hlt]
         conv=>whnf
   | succ m ih=>
     intro i s hi hs
     refine w9 hX s ?_
     rw [hs]
     have hin:i<a∧i<b:=by simp only [n] at hi;omega
     obtain ⟨⟨_,q1,q2,q3,q4,q5,q6,q7,hqn,hfi⟩,hp⟩:=hf i
     have hltA:decide ((i:Int)<IntKind.i64.wrap (A.tmod 6))=true:=by rw [hw];simp;omega
     have hltB:decide ((i:Int)<IntKind.i64.wrap (B.tmod 4))=true:=by rw [hwb];simp;omega
     have hnextf:(List.range (i+1)).map f=(List.range i).map f++[f i]:=by simp [List.range_succ]
     have hnextg:(List.range (i+1)).map g=(List.range i).map g++[a7C (a6K (i:Int))]:=by simp [List.range_succ,g]
     have hw1:IntKind.i64.wrap ((i:Int)+1)=((i+1:Nat):Int):=by rw [wrap_small (by omega) (by omega)];omega
     have hgo:∀ s',norm [1,2,4,9,10] s'=dSt rows K A B N S (IntKind.i64.wrap (A.tmod 6)) (IntKind.i64.wrap ((i:Int)+1)) (i+1) ((List.range i).map g++[a7C (a6K (i:Int))]) ((List.range i).map f++[f i])→X s':=fun s' h=>ih (i+1) s' (by omega) (by rw [h,hw1,hnextf,hnextg])
     have hlen:((List.range i).map f).length=i:=by simp
     have hlenk:((List.range i).map g).length=i:=by simp
     obtain ⟨wl,hwl⟩:=c0Q (i:=(i:Int)) (by omega) (by omega)
     clear hnextf hnextg ih hs
     rw [hfi] at hgo hp
     generalize IntKind.i64.wrap (A.tmod 6)=am at hltA hgo ⊢
     generalize (List.range i).map f=L at hgo hlen ⊢
     generalize (List.range i).map g=Lk at hgo hlenk ⊢
     cases L with
     | nil=>
       simp only [List.length_nil] at hlen
       subst hlen
       obtain rfl:=List.length_eq_zero_iff.1 hlenk
       conv=>whnf
       rw [hltB]
       conv=>whnf
       refine w6 hltA ?_
       conv=>whnf
       refine ⟨_,_,h66 _,?_⟩
       conv=>whnf
       refine w6 (by kernel_rfl) ?_
       conv=>whnf
       refine ⟨_,_,hp,?_⟩
       conv=>whnf
       refine w6 (by kernel_rfl) ?_
       conv=>whnf
       exact hgo _ rfl
     | cons x L=>
       conv=>whnf
       rw [hltB]
       conv=>whnf
       refine w6 hltA ?_
       conv=>whnf
       refine j1 (b4j (cs:=b0q) (by rfl) (by rfl) (by omega) (by omega)) ?_
       conv=>whnf
       refine j1 (b6q (by rfl) hwl) ?_
       conv=>whnf
       refine ⟨_,_,h66 _,?_⟩
       conv=>whnf
       refine j1 (M3 (L:=Lk) (c:=i) (xs:=[a7C (a6K (i:Int))]) (by rfl) hlenk (by rfl) (by rfl) (by simp;omega)) ?_
       conv=>whnf
       refine w6 (by kernel_rfl) ?_
       conv=>whnf
       refine ⟨_,_,hp,?_⟩
       conv=>whnf
       refine j1 (M3 (L:=x::L) (c:=i) (xs:=[[.int .i64 q1,.bool q2,.int .i64 q3,.str q4,.int .i64 q5,.int .i64 q6,.int .i64 q7]]) (by rfl) hlen (by rfl) (by rfl) (by simp;omega)) ?_
       conv=>whnf
       refine w6 (by kernel_rfl) ?_
       conv=>whnf
       exact hgo _ rfl
  exact key n 0 _ (by omega) rfl
end Go.Ab.Td
namespace Go.Ab.Td
set_option maxRecDepth 100000
set_option maxRecDepth 100000
open Go Go.Ab
theorem b3Q (F:List PV→Prop) (Ok:Nat→List PV→Own→PV→Prop) (rows:List (List PV)) (K A B N:Int) (S:List UInt8) (hA:0≤A∧A<256) (hB:0≤B∧B<256) (hN: -2147483648≤N∧N≤2147483647)
 (hO:∀ K' A' B' N' S',0≤A'∧A'<256→0≤B'∧B'<256→ -2147483648≤N'∧N'≤2147483647→∃ r,(F r∧a2Q r)∧Ok c9 [B5 K' A' B' N' S',.sl 7 rows] [] (.agg r))
 (h65:∀ n,Ok l0 [.int .i64 n] [] (b5Y n)) (h66:∀ s,Ok v3 [.str s] [] (b6v s)):∃ r,b0s F r∧fnW wG Ok noX noT noT 0 w7 [B5 K A B N S,.sl 7 rows] (.agg r):=by
 cases h0:(K.tmod 5==0) with
 | true=>exact c4Y F Ok rows K A B N S hA hB hO h65 h66 h0
 | false=>
   cases h1:(K.tmod 5==1) with
   | true=>exact c4Z F Ok rows K A B N S hA hB hO h65 h66 h0 h1
   | false=>
     cases h2:(K.tmod 5==2) with
     | true=>exact c5a F Ok rows K A B N S hA hO h0 h1 h2
     | false=>
       cases h3:(K.tmod 5==3) with
       | true=>exact c5b F Ok rows K A B N S hA hB hN hO h65 h66 h0 h1 h2 h3
       | false=>exact c5c F Ok rows K A B N S hA hB hO h65 h66 h0 h1 h2 h3
def a4u (r:List PV):Prop:=∃ K A B N S,r=[.int .u8 K,.int .u8 A,.int .u8 B,.int .i32 N,.str S]∧(0≤A∧A<256)∧(0≤B∧B<256)∧(-2147483648≤N∧N≤2147483647)
theorem a4u.r {r:List PV} (h:a4u r):c6b r:=by
 obtain ⟨K,A,B,N,S,e,a,b,_⟩:=h
 exact ⟨K,A,B,N,S,e,a,b⟩
attribute [local irreducible] d8
set_option maxHeartbeats 4000000 in
theorem b9O (Inv:List (List PV)→Prop) (h0:Inv Y4) (Ok:Nat→List PV→Own→PV→Prop) (cells ops d9:List (List PV)) (hc:∀ r ∈ cells,a4u r)
 (h53:Ok p7 [.sl 1 [[.str b3G],[.str b3H]]] [(0,0)] (.sl 7 Y4))
 (h54:∀ K A B N S H,0≤A∧A<256→0≤B∧B<256→ -2147483648≤N∧N≤2147483647→a4s H→H.length<20→Inv H→∃ r,(a2P r∧Inv (H++[r]))∧Ok m8 [B5 K A B N S,.sl 7 H] [] (.agg r)):
 ∃ H,Inv H∧fnW wG Ok noX noT noT 0 Z0 [.agg [.sl 5 cells,.sl 5 ops,.sl 1 d9]] (.sl 7 H):=by
 let n:=min cells.length 10
 have hnx:∀ p:Nat × List (List PV),∃ r:List PV,∀ row,cells[p.1]?=some row→(a4s p.2∧p.2.length<20∧Inv p.2)→(a2P r∧Inv (p.2++[r]))∧Ok m8 [.agg row,.sl 7 p.2] [] (.agg r):=by
  intro p
  by_cases hh:a4s p.2∧p.2.length<20∧Inv p.2
  ·cases hr:cells[p.1]? with
   | none=>exact ⟨[],fun _ h=>by cases h⟩
   | some row=>
     obtain ⟨K,A,B,N,S,rfl,hA,hB,hN⟩:=hc row (List.mem_of_getElem? hr)
     obtain ⟨r,h1,h2⟩:=h54 K A B N S p.2 hA hB hN hh.1 hh.2.1 hh.2.2
     exact ⟨r,fun _ e _=>by cases e;exact ⟨h1,h2⟩⟩
  ·exact ⟨[],fun _ _ h=>absurd h hh⟩
 obtain ⟨nxt,hnxt⟩:=Classical.axiomOfChoice hnx
 let hs:Nat→List (List PV):=fun i=>Nat.rec Y4 (fun i h=>h++[nxt (i,h)]) i
 have hsS:∀ i,hs (i+1)=hs i++[nxt (i,hs i)]:=fun i=>rfl
 have hok:∀ i,i≤n→(a4s (hs i)∧Inv (hs i))∧(hs i).length=10+i:=by
  intro i
  induction i with
  | zero=>intro _;exact ⟨⟨⟨[],rfl,by simp,b1R⟩,h0⟩,rfl⟩
  | succ i ih=>
    intro hi
    obtain ⟨⟨⟨more,e,hm,hall⟩,hI⟩,hl⟩:=ih (by omega)
    obtain ⟨row,hrow⟩:∃ row,cells[i]?=some row:=⟨_,List.getElem?_eq_getElem (by simp only [n] at hi;omega)⟩
    have hlt20:(hs i).length<20:=by simp only [n] at hi;omega
    obtain ⟨h1,h1I⟩:=(hnxt (i,hs i) row hrow ⟨⟨more,e,hm,hall⟩,hlt20,hI⟩).1
    rw [hsS]
    refine ⟨⟨⟨more++[nxt (i,hs i)],by rw [← List.append_assoc,← e],?_,?_⟩,h1I⟩,by simp;omega⟩
    ·have:(hs i).length=10+more.length:=by rw [e,List.length_append];rfl
     simp only [n] at hi
     simp;omega
    ·intro r hr
     rcases List.mem_append.1 hr with h | h
     ·exact hall r h
     ·simp only [List.mem_singleton] at h;subst h;exact h1
 refine ⟨hs n,(hok n (Nat.le_refl _)).1.2,?_⟩
 conv=>whnf
 refine ⟨_,_,h53,?_⟩
 conv=>whnf
 intro X hX _
 have key:∀ (m i:Nat) (s:St) (sl:Bool),i+m=n→norm [1,3,4] s=hSt cells ops d9 (i:Int) (10+i) (hs i) sl→X s:=by
  intro m
  induction m with
  | zero=>
    intro i s sl hi hs'
    refine w9 hX s ?_
    rw [hs']
    obtain rfl:i=n:=by omega
    have hl:=(hok n (Nat.le_refl _)).2
    generalize hs n=H at hl ⊢
    cases hlt:decide ((n:Int)<(cells.length:Int)) with
    | true=>
      have h10:decide ((n:Int)<10)=false:=by simp only [n,decide_eq_true_eq,decide_eq_false_iff_not] at hlt ⊢;omega
      conv=>whnf
      rw [hlt]
      conv=>whnf
      refine E6 h10 ?_
      conv=>whnf
      rw [List.drop_zero,← hl,List.take_length]
    | false=>
      conv=>whnf
      rw [hlt]
      conv=>whnf
      rw [List.drop_zero,← hl,List.take_length]
  | succ m ih=>
    intro i s sl hi hs'
    refine w9 hX s ?_
    rw [hs']
    have hin:i<cells.length∧i<10:=by simp only [n] at hi;omega
    have hlt:decide ((i:Int)<(cells.length:Int))=true:=by simp;omega
    have h10:decide ((i:Int)<10)=true:=by simp;omega
    obtain ⟨row,hrow⟩:∃ row,cells[i]?=some row:=⟨_,List.getElem?_eq_getElem (by omega)⟩
    have hw:IntKind.i64.wrap ((i:Int)+1)=((i+1:Nat):Int):=by rw [wrap_small (by omega) (by omega)];omega
    obtain ⟨hH,hl⟩:=hok i (by omega)
    have hlt20:(hs i).length<20:=by rw [hl];omega
    obtain ⟨⟨h1,_⟩,h2⟩:=hnxt (i,hs i) row hrow ⟨hH.1,hlt20,hH.2⟩
    have hgo:∀ s',norm [1,3,4] s'=hSt cells ops d9 (IntKind.i64.wrap ((i:Int)+1)) (10+i+1) (hs i++[nxt (i,hs i)]) true→X s':=fun s' h=>ih (i+1) s' true (by omega) (by rw [h,hw,hsS];rfl)
    obtain ⟨K,A,B,N,S,rfl,hA,hB,hN⟩:=hc row (List.mem_of_getElem? hrow)
    clear hs' ih hok
    simp only [] at h2
    generalize nxt (i,hs i)=r at h1 h2 hgo
    generalize hs i=H at h1 h2 hgo hl ⊢
    have hpub:H=(H.drop 0).take (10+i):=by rw [List.drop_zero,← hl,List.take_length]
    have h2':Ok m8 [B5 K A B N S,.sl 7 ((H.drop 0).take (10+i))] [] (.agg r):=by rw [← hpub];exact h2
    obtain ⟨q1,q2,q3,q4,q5,q6,q7,m1,m2,m3,rfl,_,c3,c4,c5⟩:=h1
    have hrow':cells[(i:Int).toNat]?=some [.int .u8 K,.int .u8 A,.int .u8 B,.int .i32 N,.str S]:=by simpa using hrow
    rcases c3 with ⟨rfl,_⟩ | ⟨r3,rfl,_⟩ <;>rcases c4 with ⟨rfl,_⟩ | ⟨r4,rfl,_⟩ <;>rcases c5 with ⟨rfl,_⟩ | ⟨r5,rfl,_⟩
    all_goals
     conv=>whnf
     rw [hlt]
     conv=>whnf
     refine w6 h10 ?_
     conv=>whnf
     refine j1 (e8 (rows:=cells) (j:=(i:Int)) (by rfl) (by rfl) (by omega) hrow') ?_
     conv=>whnf
     refine ⟨_,_,h2',?_⟩
     conv=>whnf
     refine j1 (M3 (L:=H) (c:=10+i) (sl:=true) (xs:=[[.int .i64 q1,.str q2,_,_,_,.int .i64 q6,.int .i64 q7]]) (by rfl) hl (by rfl) (by rfl) (by simp;omega)) ?_
     conv=>whnf
     exact hgo _ rfl
 exact key n 0 _ false (by omega) rfl
end Go.Ab.Td
namespace Go.Ab.Td
set_option maxRecDepth 100000
open Go Go.Ab
variable {P:Program}
set_option linter.unusedSimpArgs false
attribute [local irreducible] d8
def c7S (l:List Ob) (i:Nat) (k:Ob):Prop:=k.kind≠0∧k.kind≠6∧k.key=k∧(i:Int)≤i9 k 0 l
def b9d (l:List Ob):Prop:=∀ (i:Nat) (k:Ob),l[i]?=some k→c7S l i k
end Go.Ab.Td
namespace Go.Ab.Td
set_option maxRecDepth 100000
open Go Go.Ab
variable {P:Program}
set_option linter.unusedSimpArgs false
attribute [local irreducible] d8
def a0R (h:List Cl) (c:Cl):Prop:=
 (c.kind=1∧(c.bytes.length≤1000∧c.items.length=0∧c.keys.length=0∧c.A7.length=0∧c.max=0∧c.at'=0))∨
 (c.kind=2∧(c.bytes=[]∧c.items.length≤1000∧(∀ o ∈ c.items,fits h o)∧c.keys.length=0∧c.A7.length=0∧c.max=0∧c.at'=0))∨
 (c.kind=3∧(c.bytes=[]∧c.items.length=0∧c.at'=0∧0≤c.max∧c.max≤200∧c.keys.length=c.A7.length∧(c.keys.length:Int)≤c.max∧(∀ o ∈ c.keys,fits h o)∧(∀ o ∈ c.A7,fits h o)∧b9d c.keys))∨
 (c.kind=4∧(c.bytes.length≤4000∧c.items.length=0∧c.keys.length=0∧c.A7.length=0∧0≤c.at'∧c.at'≤c.bytes.length∧(c.max=0∨c.max=1)))
end Go.Ab.Td
namespace Go.Ab.Td
set_option maxRecDepth 100000
open Go Go.Ab
variable {P:Program}
set_option linter.unusedSimpArgs false
attribute [local irreducible] d8
end Go.Ab.Td
namespace Go.Ab.Td
set_option maxRecDepth 100000
set_option maxRecDepth 100000
open Go Go.Ab
set_option linter.unusedSimpArgs false
theorem a8I (k:Ob):∀ (l:List Ob) (i s:Nat),l[i]?=some k→(k ∈ l.take i↔i9 k s l<s+i)
 | [],_,_,h=>by simp at h
 | x::l,0,s,h=>by
   simp only [List.getElem?_cons_zero,Option.some.injEq] at h
   subst h
   simp [i9]
 | x::l,i+1,s,h=>by
   simp only [List.getElem?_cons_succ] at h
   have ih:=a8I k l i (s+1) h
   simp only [List.take_succ_cons,List.mem_cons]
   unfold i9
   by_cases e:x=k
   ·rw [if_pos e];simp [e];omega
   ·rw [if_neg e,ih]
    constructor
    ·rintro (e2 | e2)
     ·exact absurd e2.symm e
     ·omega
    ·intro e2;right;omega
theorem c7O {p:Ob→Prop} {a b c:List Ob}:(∀ l ∈ [a,b,c],∀ o ∈ l,p o)↔((∀ o ∈ a,p o)∧(∀ o ∈ b,p o)∧(∀ o ∈ c,p o)):=by
 simp
def a2c (h:List Cl):Prop:=(∀ c ∈ h,a0R h c)∧r9 0 h≤20000
theorem b5G (c:Cl):∀ (l:List Cl) (n:Int),r9 n (l++[c])=IntKind.i64.wrap (r9 n l+c.size)
 | [],_=>rfl
 | _::l,_=>b5G c l _
theorem a9x {c c':Cl} (hs:c'.size=c.size):∀ (l:List Cl) (j:Nat) (n:Int),l[j]?=some c→r9 n (l.set j c')=r9 n l
 | [],j,n,h=>by simp at h
 | x::l,0,n,h=>by
   simp only [List.getElem?_cons_zero,Option.some.injEq] at h
   subst h
   simp only [List.set_cons_zero,r9,hs]
 | x::l,j+1,n,h=>by
   simp only [List.getElem?_cons_succ] at h
   simp only [List.set_cons_succ,r9]
   exact a9x hs l j _ h
theorem a8G {h more:List Cl} {o:Ob} (hf:fits h o):fits (h++more) o:=by
 refine ⟨hf.1,fun hk=>?_⟩
 obtain ⟨c,hc,h1⟩:=hf.2 hk
 exact ⟨c,by rw [List.getElem?_append_left (List.getElem?_eq_some_iff.1 hc).1];exact hc,h1⟩
theorem a1a {h h':List Cl} (hm:∀ o,fits h o→fits h' o) {c:Cl} (hc:a0R h c):a0R h' c:=by
 unfold a0R at*
 rcases hc with h1 | ⟨k,a,b,f,r⟩ | ⟨k,a,b,c1,c2,c3,c4,c5,f,g,r⟩ | h1
 ·exact .inl h1
 ·exact .inr (.inl ⟨k,a,b,fun o ho=>hm o (f o ho),r⟩)
 ·exact .inr (.inr (.inl ⟨k,a,b,c1,c2,c3,c4,c5,fun o ho=>hm o (f o ho),fun o ho=>hm o (g o ho),r⟩))
 ·exact .inr (.inr (.inr h1))
theorem b6c {h:List Cl} {j:Nat} {c c':Cl} (hc:h[j]?=some c) (hk:c'.kind=c.kind) (hl:c'.kind=3∨c'.kind=4∨c'.length=c.length) {o:Ob} (hf:fits h o):fits (h.set j c') o:=by
 refine ⟨hf.1,fun hx=>?_⟩
 obtain ⟨d,hd,h1,h2⟩:=hf.2 hx
 by_cases e:o.ref.toNat=j
 ·subst e
  rw [hd] at hc
  cases hc
  refine ⟨c',by rw [List.getElem?_set_self (List.getElem?_eq_some_iff.1 hd).1],by rw [hk];exact h1,fun h9=>?_⟩
  have:c'.length=c.length:=by
   rcases hl with hl | hl | hl
   ·exfalso
    rw [hk,h1] at hl
    rcases a3C o.kind with q | q | q | q | q <;>omega
   ·exfalso
    rw [hk,h1] at hl
    rcases a3C o.kind with q | q | q | q | q <;>omega
   ·exact hl
  rw [this]
  exact h2 h9
 ·exact ⟨d,by rw [List.getElem?_set_ne (fun h=>e h.symm)];exact hd,h1,h2⟩
theorem b0o {h:List Cl} {j:Nat} {c c':Cl} (hv:a2c h) (hc:h[j]?=some c) (hk:c'.kind=c.kind) (hl:c'.kind=3∨c'.kind=4∨c'.length=c.length) (hs:c'.size=c.size) (hr:a0R h c'):a2c (h.set j c'):=by
 refine ⟨fun d hd=>?_,by rw [a9x hs h j 0 hc];exact hv.2⟩
 rcases List.mem_or_eq_of_mem_set hd with hd | rfl
 ·exact a1a (fun o ho=>b6c hc hk hl ho) (hv.1 d hd)
 ·exact a1a (fun o ho=>b6c hc hk hl ho) hr
end Go.Ab.Td
namespace Go.Ab.Td
set_option maxRecDepth 100000
open Go Go.Ab
variable {P:Program}
set_option linter.unusedSimpArgs false
set_option linter.unusedVariables false
attribute [local irreducible] d8
end Go.Ab.Td
namespace Go.Ab.Td
set_option maxRecDepth 100000
open Go Go.Ab
variable {P:Program}
set_option linter.unusedSimpArgs false
set_option linter.unusedVariables false
attribute [local irreducible] d8
end Go.Ab.Td
namespace Go.Ab.Td
set_option maxRecDepth 100000
open Go Go.Ab
variable {P:Program}
set_option linter.unusedSimpArgs false
set_option linter.unusedVariables false
attribute [local irreducible] d8
end Go.Ab.Td
namespace Go.Ab.Td
set_option maxRecDepth 100000
set_option maxRecDepth 100000
open Go Go.Ab
variable {P:Program}
theorem c3n {h:List Cl} (t:a2e h):h[4]?=some c4X∧(∀ j:Nat,5≤j→j≤9→h[j]?=some (dct [] [] 10))∧10≤h.length:=by
 obtain ⟨more,rfl,hm,hall⟩:=t
 refine ⟨rfl,fun j h1 h2=>?_,by simp [a1e]⟩
 have:j=5∨j=6∨j=7∨j=8∨j=9:=by omega
 rcases this with rfl | rfl | rfl | rfl | rfl <;>rfl
theorem b7H (j:Int) (h0:0≤j) (h1:j≤20000):(dO j).right:=by
 unfold Ob.right Ob.blank dO;simp;omega
section
variable {s:B4} (hs:c4T s) {cs:List UInt8} (hc:cs ∈ b7m) (o:Ob) (ho:o.n<9223372036854775808)
end
end Go.Ab.Td
