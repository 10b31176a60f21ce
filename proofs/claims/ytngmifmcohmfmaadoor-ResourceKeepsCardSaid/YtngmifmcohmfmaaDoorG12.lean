/- A part of the proof: the texts TdVc, TdHeap. Under: nothing. -/
import Derived.Test.YtngmifmcohmfmaaDoorG11
import Derived.Test.YtngmifmcohmfmaaDoorG10
set_option linter.unusedVariables false
namespace Go.Ab.Td
set_option maxRecDepth 100000
set_option maxRecDepth 100000
open Go Go.Ab
attribute [local irreducible] j6
set_option maxHeartbeats 4000000 in
theorem c3c (F:List PV→Prop) (Ok:Nat→List PV→Own→PV→Prop) (rows:List (List PV)) (K A B N:Int) (S:List UInt8) (hA:0≤A∧A<256) (hB:0≤B∧B<256) (hN: -2147483648≤N∧N≤2147483647)
 (hO:∀ K' A' B' N' S',0≤A'∧A'<256→0≤B'∧B'<256→ -2147483648≤N'∧N'≤2147483647→∃ r,(F r∧O7 r)∧Ok i7 [F0 K' A' B' N' S',.sl 7 rows] [] (.agg r))
 (h65:∀ n,Ok r9 [.int .i64 n] [] (b4l n)) (h66:∀ s,Ok A1 [.str s] [] (b4E s))
 (h0:(K.tmod 5==0)=false) (h1:(K.tmod 5==1)=false) (h2:(K.tmod 5==2)=false) (h3:(K.tmod 5==3)=true):∃ r,a9k F r∧fnW wG Ok noX noT noT 0 y5 [F0 K A B N S,.sl 7 rows] (.agg r):=by
 have hm:0≤(if (40:Int)<S.length then (40:Int) else (S.length:Int))∧(if (40:Int)<S.length then (40:Int) else (S.length:Int))≤S.length:=by split <;>omega
 obtain ⟨f,hf⟩:=Classical.axiomOfChoice (fun i:Nat=>hO _ _ N [] (b1C (A+IntKind.u8.wrap (i:Int))) hB hN (K':=IntKind.u8.wrap (B+IntKind.u8.wrap (IntKind.i64.wrap (3*(i:Int))))))
 obtain ⟨a,ha⟩:∃ a:Nat,A.tmod 6=a:=⟨(A.tmod 6).toNat,by have:=Int.tmod_nonneg 6 hA.1;omega⟩
 have ha6:a<6:=by have:=Int.tmod_lt_of_pos A (show (0:Int)<6 by decide);omega
 have hw:IntKind.i64.wrap (A.tmod 6)=a:=by rw [ha,wrap_small (by omega) (by omega)]
 obtain ⟨b,hb⟩:∃ b:Nat,B.tmod 4=b:=⟨(B.tmod 4).toNat,by have:=Int.tmod_nonneg 4 hB.1;omega⟩
 have hb4:b<4:=by have:=Int.tmod_lt_of_pos B (show (0:Int)<4 by decide);omega
 have hwb:IntKind.i64.wrap (B.tmod 4)=b:=by rw [hb,wrap_small (by omega) (by omega)]
 let n:=min a b
 let g:Nat→List PV:=fun i=>a6W (a6o (i:Int))
 let vs:List (List PV):=(List.range n).map f
 let ks:List (List PV):=(List.range n).map g
 refine ⟨[.int .i64 3,.str [],.emp 7,match vs with | []=>.emp 7 | _::_=>.sl 7 ((ks.drop 0).take n),match vs with | []=>.emp 7 | x::L=>.sl 7 (((x::L).drop 0).take n),.int .i64 (IntKind.i64.wrap (A.tmod 6)),.int .i64 0],?_,?_⟩
 ·have hit:∀ x ∈ vs,F x:=by
   intro x hx
   obtain ⟨i,_,rfl⟩:=List.mem_map.1 hx
   exact (hf i).1.1
  have hil:vs.length=n:=by simp [vs]
  have hkl:ks.length=n:=by simp [ks]
  have hn:n≤a:=by simp only [n];omega
  refine .inr (.inr (.inl ⟨_,_,n,a,hn,by omega,?_,?_,by rw [hw]⟩))
  ·revert hit hil
   generalize vs=L
   intro hit hil
   cases L with
   | nil=>exact .inl ⟨rfl,by simpa using hil.symm⟩
   | cons x L=>
     refine .inr ?_
     show PV.sl 7 ((ks.drop 0).take n)=PV.sl 7 ks
     rw [List.drop_zero,← hkl,List.take_length]
  ·revert hit hil
   generalize vs=L
   intro hit hil
   cases L with
   | nil=>exact .inl ⟨rfl,by simpa using hil.symm⟩
   | cons x L=>
     refine .inr ⟨_,rfl,?_,?_⟩
     ·simp only [List.drop_zero,List.length_take];omega
     ·intro y hy
      exact hit y (List.mem_of_mem_take (by simpa using hy))
 ·have h65':=h65 (IntKind.i64.wrap (A.tmod 6))
  conv=>whnf
  refine g9 (a4v (s:=S) (h:=if (40:Int)<S.length then (40:Int) else (S.length:Int)) (by rfl) (by rfl) hm.1 hm.2) ?_
  conv=>whnf
  refine d8 h0 ?_
  conv=>whnf
  refine d8 h1 ?_
  conv=>whnf
  refine d8 h2 ?_
  conv=>whnf
  refine l8 h3 ?_
  conv=>whnf
  refine ⟨_,_,h65',?_⟩
  conv=>whnf
  intro X hX _
  have key:∀ (m i:Nat) (s:St),i+m=n→norm [1,2,4,9,10] s=dSt rows K A B N S (IntKind.i64.wrap (A.tmod 6)) (i:Int) i ((List.range i).map g) ((List.range i).map f)→X s:=by
   intro m
   induction m with
   | zero=>
     intro i s hi hs
     refine y9 hX s ?_
     rw [hs]
     have hia:i=n:=by omega
     subst hia
     have hlt2:decide ((n:Int)<IntKind.i64.wrap (B.tmod 4))=true→decide ((n:Int)<IntKind.i64.wrap (A.tmod 6))=false:=by rw [hw,hwb];simp only [n,decide_eq_true_eq,decide_eq_false_iff_not];omega
     show aw wG Ok _ true _ _ (dSt rows K A B N S (IntKind.i64.wrap (A.tmod 6)) (n:Int) n ks vs)
     generalize IntKind.i64.wrap (A.tmod 6)=am at hlt2 ⊢
     generalize vs=L
     cases hlt:decide ((n:Int)<IntKind.i64.wrap (B.tmod 4)) with
     | true=>
       have hlt3:=hlt2 hlt
       cases L with
       | nil=>
         conv=>whnf
         rw [hlt]
         conv=>whnf
         refine d8 hlt3 ?_
         conv=>whnf
       | cons x L=>
         conv=>whnf
         rw [hlt]
         conv=>whnf
         refine d8 hlt3 ?_
         conv=>whnf
     | false=>
       cases L with
       | nil=>
         conv=>whnf
         rw [hlt]
         conv=>whnf
       | cons x L=>
         conv=>whnf
         rw [hlt]
         conv=>whnf
   | succ m ih=>
     intro i s hi hs
     refine y9 hX s ?_
     rw [hs]
     have hin:i<a∧i<b:=by simp only [n] at hi;omega
     obtain ⟨⟨_,q1,q2,q3,q4,q5,q6,q7,hqn,hfi⟩,hp⟩:=hf i
     have hltA:decide ((i:Int)<IntKind.i64.wrap (A.tmod 6))=true:=by rw [hw];simp;omega
     have hltB:decide ((i:Int)<IntKind.i64.wrap (B.tmod 4))=true:=by rw [hwb];simp;omega
     have hnextf:(List.range (i+1)).map f=(List.range i).map f++[f i]:=by simp [List.range_succ]
     have hnextg:(List.range (i+1)).map g=(List.range i).map g++[a6W (a6o (i:Int))]:=by simp [List.range_succ,g]
     have hw1:IntKind.i64.wrap ((i:Int)+1)=((i+1:Nat):Int):=by rw [wrap_small (by omega) (by omega)];omega
     have hgo:∀ s',norm [1,2,4,9,10] s'=dSt rows K A B N S (IntKind.i64.wrap (A.tmod 6)) (IntKind.i64.wrap ((i:Int)+1)) (i+1) ((List.range i).map g++[a6W (a6o (i:Int))]) ((List.range i).map f++[f i])→X s':=fun s' h=>ih (i+1) s' (by omega) (by rw [h,hw1,hnextf,hnextg])
     have hlen:((List.range i).map f).length=i:=by simp
     have hlenk:((List.range i).map g).length=i:=by simp
     obtain ⟨wl,hwl⟩:=b8t (i:=(i:Int)) (by omega) (by omega)
     clear hnextf hnextg ih hs
     rw [hfi] at hgo hp
     generalize IntKind.i64.wrap (A.tmod 6)=am at hltA hgo ⊢
     generalize (List.range i).map f=L at hgo hlen ⊢
     generalize (List.range i).map g=Lk at hgo hlenk ⊢
     cases L with
     | nil=>
       simp only [List.length_nil] at hlen
       subst hlen
       obtain rfl:=List.length_eq_zero_iff.1 hlenk
       conv=>whnf
       rw [hltB]
       conv=>whnf
       refine l8 hltA ?_
       conv=>whnf
       refine ⟨_,_,h66 _,?_⟩
       conv=>whnf
       refine l8 (by kernel_rfl) ?_
       conv=>whnf
       refine ⟨_,_,hp,?_⟩
       conv=>whnf
       refine l8 (by kernel_rfl) ?_
       conv=>whnf
       exact hgo _ rfl
     | cons x L=>
       conv=>whnf
       rw [hltB]
       conv=>whnf
       refine l8 hltA ?_
       conv=>whnf
       refine g9 (a6B (cs:=a6p) (by rfl) (by rfl) (by omega) (by omega)) ?_
       conv=>whnf
       refine g9 (a8p (by rfl) hwl) ?_
       conv=>whnf
       refine ⟨_,_,h66 _,?_⟩
       conv=>whnf
       refine g9 (M0 (L:=Lk) (c:=i) (xs:=[a6W (a6o (i:Int))]) (by rfl) hlenk (by rfl) (by rfl) (by simp;omega)) ?_
       conv=>whnf
       refine l8 (by kernel_rfl) ?_
       conv=>whnf
       refine ⟨_,_,hp,?_⟩
       conv=>whnf
       refine g9 (M0 (L:=x::L) (c:=i) (xs:=[[.int .i64 q1,.bool q2,.int .i64 q3,.str q4,.int .i64 q5,.int .i64 q6,.int .i64 q7]]) (by rfl) hlen (by rfl) (by rfl) (by simp;omega)) ?_
       conv=>whnf
       refine l8 (by kernel_rfl) ?_
       conv=>whnf
       exact hgo _ rfl
  exact key n 0 _ (by omega) rfl
end Go.Ab.Td
namespace Go.Ab.Td
set_option maxRecDepth 100000
set_option maxRecDepth 100000
open Go Go.Ab
def b6f (r:List PV):Prop:=∃ K A B N S,r=[.int .u8 K,.int .u8 A,.int .u8 B,.int .i32 N,.str S]∧(0≤A∧A<256)∧(0≤B∧B<256)
def hTm (n:Nat) (v:Int):T:=((T.nil.set e9 1 (.ptr 0 0 0)).set e9 3 (.own 1 0 n)).set e9 4 (.pv (.int .i64 v))
def hSt (cells ops k8:List (List PV)) (v:Int) (n:Nat) (rows:List (List PV)) (sl:Bool):St:=
 ⟨hTm n v,[(0,some (.box 3 [[.pv (.sl 5 cells),.pv (.sl 5 ops),.pv (.sl 1 k8)]] false)),(1,some (.arr 7 rows sl))],2,29⟩
def b9p (s:List UInt8):List PV:=[.int .i64 10,.bool true,.int .i64 0,.str s,.int .i64 0,.int .i64 0,.int .i64 0]
def X8 (n:Int):List PV:=[.int .i64 9,.bool false,.int .i64 0,.str [],.int .i64 n,.int .i64 0,.int .i64 0]
def b2a:List UInt8:=[97,100,100]
def b2b:List UInt8:=[112,111,112]
def a1y:List (List UInt8):=[[70,111,110,116],[80,97,116,116,101,114,110],[69,110,99,111,100,105,110,103],[70,111,114,109],[71,101,110,101,114,105,99]]
def P8 (ks vs:PV) (m:Int):List PV:=[.int .i64 3,.str [],.emp 7,ks,vs,.int .i64 m,.int .i64 0]
def W5:List (List PV):=[P8 (.sl 7 [a6W b2a,a6W b2b]) (.sl 7 [b9p b2a,b9p b2b]) 200,P8 (.emp 7) (.emp 7) 50,P8 (.emp 7) (.emp 7) 30,P8 (.emp 7) (.emp 7) 12,
 P8 (.sl 7 (a1y.map a6W)) (.sl 7 [X8 5,X8 6,X8 7,X8 8,X8 9]) 5,
 P8 (.emp 7) (.emp 7) 10,P8 (.emp 7) (.emp 7) 10,P8 (.emp 7) (.emp 7) 10,P8 (.emp 7) (.emp 7) 10,P8 (.emp 7) (.emp 7) 10]
theorem a1A (m:Int):a2t (P8 (.emp 7) (.emp 7) m):=⟨_,_,_,_,_,_,_,0,0,0,rfl,⟨by simp,fun hk=>⟨by simp,by first | rfl | exact absurd hk (by decide)⟩,fun _=>rfl⟩,SlR.none,SlR.none,SlR.none⟩
theorem O7.i (k:Int) (e:Bool) (n:Int) (s:List UInt8) (rf o l:Int) (hn:n<9223372036854775808):O7 [.int .i64 k,.bool e,.int .i64 n,.str s,.int .i64 rf,.int .i64 o,.int .i64 l]:=⟨_,_,_,_,_,_,_,hn,rfl⟩
theorem b4k {ks vs:List (List PV)} {m:Int} (hk:∀ x ∈ ks,O7 x) (hv:∀ x ∈ vs,O7 x) (hk':ks.length≤1000) (hv':vs.length≤1000):a2t (P8 (.sl 7 ks) (.sl 7 vs) m):=
 ⟨_,_,_,_,_,_,_,0,ks.length,vs.length,rfl,⟨by simp,fun hk=>⟨by simp,by first | rfl | exact absurd hk (by decide)⟩,fun _=>rfl⟩,SlR.none,.inr ⟨_,rfl,rfl,hk',hk⟩,.inr ⟨_,rfl,rfl,hv',hv⟩⟩
theorem b0K:∀ r ∈ W5,a2t r:=by
 intro r h
 simp only [W5,List.mem_cons,List.not_mem_nil,or_false] at h
 rcases h with rfl | rfl | rfl | rfl | rfl | rfl | rfl | rfl | rfl | rfl
 ·exact b4k (by simp [a6W,O7]) (by simp [b9p,O7]) (by simp) (by simp)
 ·exact a1A _
 ·exact a1A _
 ·exact a1A _
 ·exact b4k (by simp [a6W,O7,a1y]) (by simp [X8,O7]) (by simp [a1y]) (by simp)
 ·exact a1A _
 ·exact a1A _
 ·exact a1A _
 ·exact a1A _
 ·exact a1A _
def a3W (H:List (List PV)):Prop:=∃ more,H=W5++more∧more.length≤10∧∀ r ∈ H,a2t r
attribute [local irreducible] j6
end Go.Ab.Td
