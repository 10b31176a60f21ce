/- A part of the proof: the texts TdVc, TdHeap. Under: nothing. -/
import Derived.Test.YtomfaadmmchdcaaGreatDoorG15
set_option linter.unusedVariables false
namespace Go.Ab.Td
set_option maxRecDepth 100000
set_option maxRecDepth 100000
open Go Go.Ab
attribute [local irreducible] e9
set_option maxHeartbeats 4000000 in
theorem c4k (F:List PV→Prop) (Ok:Nat→List PV→Own→PV→Prop) (rows:List (List PV)) (K A B N:Int) (S:List UInt8) (hA:0≤A∧A<256) (hB:0≤B∧B<256) (hN: -2147483648≤N∧N≤2147483647)
 (hO:∀ K' A' B' N' S',0≤A'∧A'<256→0≤B'∧B'<256→ -2147483648≤N'∧N'≤2147483647→∃ r,(F r∧a3A r)∧Ok j1 [a1m K' A' B' N' S',.sl 7 rows] [] (.agg r))
 (h65:∀ n,Ok n5 [.int .i64 n] [] (b5j n)) (h66:∀ s,Ok x5 [.str s] [] (b5D s))
 (h0:(K.tmod 5==0)=false) (h1:(K.tmod 5==1)=false) (h2:(K.tmod 5==2)=false) (h3:(K.tmod 5==3)=true):∃ r,b0x F r∧fnW wG Ok noX noT noT 0 w7 [a1m K A B N S,.sl 7 rows] (.agg r):=by
 have hm:0≤(if (40:Int)<S.length then (40:Int) else (S.length:Int))∧(if (40:Int)<S.length then (40:Int) else (S.length:Int))≤S.length:=by split <;>omega
 obtain ⟨f,hf⟩:=Classical.axiomOfChoice (fun i:Nat=>hO _ _ N [] (b2J (A+IntKind.u8.wrap (i:Int))) hB hN (K':=IntKind.u8.wrap (B+IntKind.u8.wrap (IntKind.i64.wrap (3*(i:Int))))))
 obtain ⟨a,ha⟩:∃ a:Nat,A.tmod 6=a:=⟨(A.tmod 6).toNat,by have:=Int.tmod_nonneg 6 hA.1;omega⟩
 have ha6:a<6:=by have:=Int.tmod_lt_of_pos A (show (0:Int)<6 by decide);omega
 have hw:IntKind.i64.wrap (A.tmod 6)=a:=by rw [ha,wrap_small (by omega) (by omega)]
 obtain ⟨b,hb⟩:∃ b:Nat,B.tmod 4=b:=⟨(B.tmod 4).toNat,by have:=Int.tmod_nonneg 4 hB.1;omega⟩
 have hb4:b<4:=by have:=Int.tmod_lt_of_pos B (show (0:Int)<4 by decide);omega
 have hwb:IntKind.i64.wrap (B.tmod 4)=b:=by rw [hb,wrap_small (by omega) (by omega)]
 let n:=min a b
 let g:Nat→List PV:=fun i=>a7F (a6U (i:Int))
 let vs:List (List PV):=(List.range n).map f
 let ks:List (List PV):=(List.range n).map g
 refine ⟨[.int .i64 3,.str [],.emp 7,match vs with | []=>.emp 7 | _::_=>.sl 7 ((ks.drop 0).take n),match vs with | []=>.emp 7 | x::L=>.sl 7 (((x::L).drop 0).take n),.int .i64 (IntKind.i64.wrap (A.tmod 6)),.int .i64 0],?_,?_⟩
 ·have hit:∀ x ∈ vs,F x:=by
   intro x hx
   obtain ⟨i,_,rfl⟩:=List.mem_map.1 hx
   exact (hf i).1.1
  have hil:vs.length=n:=by simp [vs]
  have hkl:ks.length=n:=by simp [ks]
  have hn:n≤a:=by simp only [n];omega
  refine .inr (.inr (.inl ⟨_,_,n,a,hn,by omega,?_,?_,by rw [hw]⟩))
  ·revert hit hil
   generalize vs=L
   intro hit hil
   cases L with
   | nil=>exact .inl ⟨rfl,by simpa using hil.symm⟩
   | cons x L=>
     refine .inr ?_
     show PV.sl 7 ((ks.drop 0).take n)=PV.sl 7 ks
     rw [List.drop_zero,← hkl,List.take_length]
  ·revert hit hil
   generalize vs=L
   intro hit hil
   cases L with
   | nil=>exact .inl ⟨rfl,by simpa using hil.symm⟩
   | cons x L=>
     refine .inr ⟨_,rfl,?_,?_⟩
     ·simp only [List.drop_zero,List.length_take];omega
     ·intro y hy
      exact hit y (List.mem_of_mem_take (by simpa using hy))
 ·have h65':=h65 (IntKind.i64.wrap (A.tmod 6))
  conv=>whnf
  refine j6 (a5g (s:=S) (h:=if (40:Int)<S.length then (40:Int) else (S.length:Int)) (by rfl) (by rfl) hm.1 hm.2) ?_
  conv=>whnf
  refine D9 h0 ?_
  conv=>whnf
  refine D9 h1 ?_
  conv=>whnf
  refine D9 h2 ?_
  conv=>whnf
  refine v8 h3 ?_
  conv=>whnf
  refine ⟨_,_,h65',?_⟩
  conv=>whnf
  intro X hX _
  have key:∀ (m i:Nat) (s:St),i+m=n→norm [1,2,4,9,10] s=dSt rows K A B N S (IntKind.i64.wrap (A.tmod 6)) (i:Int) i ((List.range i).map g) ((List.range i).map f)→X s:=by
   intro m
   induction m with
   | zero=>
     intro i s hi hs
     refine w9 hX s ?_
     rw [hs]
     have hia:i=n:=by omega
     subst hia
     have hlt2:decide ((n:Int)<IntKind.i64.wrap (B.tmod 4))=true→decide ((n:Int)<IntKind.i64.wrap (A.tmod 6))=false:=by rw [hw,hwb];simp only [n,decide_eq_true_eq,decide_eq_false_iff_not];omega
     show aw wG Ok _ true _ _ (dSt rows K A B N S (IntKind.i64.wrap (A.tmod 6)) (n:Int) n ks vs)
     generalize IntKind.i64.wrap (A.tmod 6)=am at hlt2 ⊢
     generalize vs=L
     cases hlt:decide ((n:Int)<IntKind.i64.wrap (B.tmod 4)) with
     | true=>
       have hlt3:=hlt2 hlt
       cases L with
       | nil=>
         conv=>whnf
         rw [hlt]
         conv=>whnf
         refine D9 hlt3 ?_
         conv=>whnf
       | cons x L=>
         conv=>whnf
         rw [hlt]
         conv=>whnf
         refine D9 hlt3 ?_
         conv=>whnf
     | false=>
       cases L with
       | nil=>
         conv=>whnf
         rw [hlt]
         conv=>whnf
       | cons x L=>
         conv=>whnf
         rw [hlt]
         conv=>whnf
   | succ m ih=>
     intro i s hi hs
     refine w9 hX s ?_
     rw [hs]
     have hin:i<a∧i<b:=by simp only [n] at hi;omega
     obtain ⟨⟨_,q1,q2,q3,q4,q5,q6,q7,hqn,hfi⟩,hp⟩:=hf i
     have hltA:decide ((i:Int)<IntKind.i64.wrap (A.tmod 6))=true:=by rw [hw];simp;omega
     have hltB:decide ((i:Int)<IntKind.i64.wrap (B.tmod 4))=true:=by rw [hwb];simp;omega
     have hnextf:(List.range (i+1)).map f=(List.range i).map f++[f i]:=by simp [List.range_succ]
     have hnextg:(List.range (i+1)).map g=(List.range i).map g++[a7F (a6U (i:Int))]:=by simp [List.range_succ,g]
     have hw1:IntKind.i64.wrap ((i:Int)+1)=((i+1:Nat):Int):=by rw [wrap_small (by omega) (by omega)];omega
     have hgo:∀ s',norm [1,2,4,9,10] s'=dSt rows K A B N S (IntKind.i64.wrap (A.tmod 6)) (IntKind.i64.wrap ((i:Int)+1)) (i+1) ((List.range i).map g++[a7F (a6U (i:Int))]) ((List.range i).map f++[f i])→X s':=fun s' h=>ih (i+1) s' (by omega) (by rw [h,hw1,hnextf,hnextg])
     have hlen:((List.range i).map f).length=i:=by simp
     have hlenk:((List.range i).map g).length=i:=by simp
     obtain ⟨wl,hwl⟩:=b9E (i:=(i:Int)) (by omega) (by omega)
     clear hnextf hnextg ih hs
     rw [hfi] at hgo hp
     generalize IntKind.i64.wrap (A.tmod 6)=am at hltA hgo ⊢
     generalize (List.range i).map f=L at hgo hlen ⊢
     generalize (List.range i).map g=Lk at hgo hlenk ⊢
     cases L with
     | nil=>
       simp only [List.length_nil] at hlen
       subst hlen
       obtain rfl:=List.length_eq_zero_iff.1 hlenk
       conv=>whnf
       rw [hltB]
       conv=>whnf
       refine v8 hltA ?_
       conv=>whnf
       refine ⟨_,_,h66 _,?_⟩
       conv=>whnf
       refine v8 (by kernel_rfl) ?_
       conv=>whnf
       refine ⟨_,_,hp,?_⟩
       conv=>whnf
       refine v8 (by kernel_rfl) ?_
       conv=>whnf
       exact hgo _ rfl
     | cons x L=>
       conv=>whnf
       rw [hltB]
       conv=>whnf
       refine v8 hltA ?_
       conv=>whnf
       refine j6 (b3K (cs:=b0v) (by rfl) (by rfl) (by omega) (by omega)) ?_
       conv=>whnf
       refine j6 (b5x (by rfl) hwl) ?_
       conv=>whnf
       refine ⟨_,_,h66 _,?_⟩
       conv=>whnf
       refine j6 (M1 (L:=Lk) (c:=i) (xs:=[a7F (a6U (i:Int))]) (by rfl) hlenk (by rfl) (by rfl) (by simp;omega)) ?_
       conv=>whnf
       refine v8 (by kernel_rfl) ?_
       conv=>whnf
       refine ⟨_,_,hp,?_⟩
       conv=>whnf
       refine j6 (M1 (L:=x::L) (c:=i) (xs:=[[.int .i64 q1,.bool q2,.int .i64 q3,.str q4,.int .i64 q5,.int .i64 q6,.int .i64 q7]]) (by rfl) hlen (by rfl) (by rfl) (by simp;omega)) ?_
       conv=>whnf
       refine v8 (by kernel_rfl) ?_
       conv=>whnf
       exact hgo _ rfl
  exact key n 0 _ (by omega) rfl
end Go.Ab.Td
namespace Go.Ab.Td
set_option maxRecDepth 100000
set_option maxRecDepth 100000
open Go Go.Ab
def c5s (r:List PV):Prop:=∃ K A B N S,r=[.int .u8 K,.int .u8 A,.int .u8 B,.int .i32 N,.str S]∧(0≤A∧A<256)∧(0≤B∧B<256)
def hTm (n:Nat) (v:Int):T:=((T.nil.set d7 1 (.ptr 0 0 0)).set d7 3 (.own 1 0 n)).set d7 4 (.pv (.int .i64 v))
def hSt (cells ops d5:List (List PV)) (v:Int) (n:Nat) (rows:List (List PV)) (sl:Bool):St:=
 ⟨hTm n v,[(0,some (.box 3 [[.pv (.sl 5 cells),.pv (.sl 5 ops),.pv (.sl 1 d5)]] false)),(1,some (.arr 7 rows sl))],2,29⟩
def c0K (s:List UInt8):List PV:=[.int .i64 10,.bool true,.int .i64 0,.str s,.int .i64 0,.int .i64 0,.int .i64 0]
def Q2 (n:Int):List PV:=[.int .i64 9,.bool false,.int .i64 0,.str [],.int .i64 n,.int .i64 0,.int .i64 0]
def b3j:List UInt8:=[97,100,100]
def b3k:List UInt8:=[112,111,112]
def b6t:List (List UInt8):=[[70,111,110,116],[80,97,116,116,101,114,110],[69,110,99,111,100,105,110,103],[70,111,114,109],[71,101,110,101,114,105,99]]
def R3 (ks vs:PV) (m:Int):List PV:=[.int .i64 3,.str [],.emp 7,ks,vs,.int .i64 m,.int .i64 0]
def Z1:List (List PV):=[R3 (.sl 7 [a7F b3j,a7F b3k]) (.sl 7 [c0K b3j,c0K b3k]) 200,R3 (.emp 7) (.emp 7) 50,R3 (.emp 7) (.emp 7) 30,R3 (.emp 7) (.emp 7) 12,
 R3 (.sl 7 (b6t.map a7F)) (.sl 7 [Q2 5,Q2 6,Q2 7,Q2 8,Q2 9]) 5,
 R3 (.emp 7) (.emp 7) 10,R3 (.emp 7) (.emp 7) 10,R3 (.emp 7) (.emp 7) 10,R3 (.emp 7) (.emp 7) 10,R3 (.emp 7) (.emp 7) 10]
theorem a2a (m:Int):a3c (R3 (.emp 7) (.emp 7) m):=⟨_,_,_,_,_,_,_,0,0,0,rfl,⟨by simp,fun hk=>⟨by simp,by first | rfl | exact absurd hk (by decide)⟩,fun _=>rfl⟩,SlR.none,SlR.none,SlR.none⟩
theorem a3A.i (k:Int) (e:Bool) (n:Int) (s:List UInt8) (rf o l:Int) (hn:n<9223372036854775808):a3A [.int .i64 k,.bool e,.int .i64 n,.str s,.int .i64 rf,.int .i64 o,.int .i64 l]:=⟨_,_,_,_,_,_,_,hn,rfl⟩
theorem b5i {ks vs:List (List PV)} {m:Int} (hk:∀ x ∈ ks,a3A x) (hv:∀ x ∈ vs,a3A x) (hk':ks.length≤1000) (hv':vs.length≤1000):a3c (R3 (.sl 7 ks) (.sl 7 vs) m):=
 ⟨_,_,_,_,_,_,_,0,ks.length,vs.length,rfl,⟨by simp,fun hk=>⟨by simp,by first | rfl | exact absurd hk (by decide)⟩,fun _=>rfl⟩,SlR.none,.inr ⟨_,rfl,rfl,hk',hk⟩,.inr ⟨_,rfl,rfl,hv',hv⟩⟩
theorem b1M:∀ r ∈ Z1,a3c r:=by
 intro r h
 simp only [Z1,List.mem_cons,List.not_mem_nil,or_false] at h
 rcases h with rfl | rfl | rfl | rfl | rfl | rfl | rfl | rfl | rfl | rfl
 ·exact b5i (by simp [a7F,a3A]) (by simp [c0K,a3A]) (by simp) (by simp)
 ·exact a2a _
 ·exact a2a _
 ·exact a2a _
 ·exact b5i (by simp [a7F,a3A,b6t]) (by simp [Q2,a3A]) (by simp [b6t]) (by simp)
 ·exact a2a _
 ·exact a2a _
 ·exact a2a _
 ·exact a2a _
 ·exact a2a _
def a4J (H:List (List PV)):Prop:=∃ more,H=Z1++more∧more.length≤10∧∀ r ∈ H,a3c r
attribute [local irreducible] e9
end Go.Ab.Td
