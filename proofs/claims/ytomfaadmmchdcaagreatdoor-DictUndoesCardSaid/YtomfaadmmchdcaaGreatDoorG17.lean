/- A part of the proof: the texts TdVd. Under: nothing. -/
import Derived.Test.YtomfaadmmchdcaaGreatDoorG16
set_option linter.unusedVariables false
namespace Go.Ab.Td
set_option maxRecDepth 100000
set_option maxRecDepth 100000
open Go Go.Ab
theorem b8p (F:List PV→Prop) (Ok:Nat→List PV→Own→PV→Prop) (rows:List (List PV)) (K A B N:Int) (S:List UInt8) (hA:0≤A∧A<256) (hB:0≤B∧B<256) (hN: -2147483648≤N∧N≤2147483647)
 (hO:∀ K' A' B' N' S',0≤A'∧A'<256→0≤B'∧B'<256→ -2147483648≤N'∧N'≤2147483647→∃ r,(F r∧a3A r)∧Ok j1 [a1m K' A' B' N' S',.sl 7 rows] [] (.agg r))
 (h65:∀ n,Ok n5 [.int .i64 n] [] (b5j n)) (h66:∀ s,Ok x5 [.str s] [] (b5D s)):∃ r,b0x F r∧fnW wG Ok noX noT noT 0 w7 [a1m K A B N S,.sl 7 rows] (.agg r):=by
 cases h0:(K.tmod 5==0) with
 | true=>exact c4h F Ok rows K A B N S hA hB hO h65 h66 h0
 | false=>
   cases h1:(K.tmod 5==1) with
   | true=>exact c4i F Ok rows K A B N S hA hB hO h65 h66 h0 h1
   | false=>
     cases h2:(K.tmod 5==2) with
     | true=>exact c4j F Ok rows K A B N S hA hO h0 h1 h2
     | false=>
       cases h3:(K.tmod 5==3) with
       | true=>exact c4k F Ok rows K A B N S hA hB hN hO h65 h66 h0 h1 h2 h3
       | false=>exact c4l F Ok rows K A B N S hA hB hO h65 h66 h0 h1 h2 h3
def a1W (r:List PV):Prop:=∃ K A B N S,r=[.int .u8 K,.int .u8 A,.int .u8 B,.int .i32 N,.str S]∧(0≤A∧A<256)∧(0≤B∧B<256)∧(-2147483648≤N∧N≤2147483647)
theorem a1W.r {r:List PV} (h:a1W r):c5s r:=by
 obtain ⟨K,A,B,N,S,e,a,b,_⟩:=h
 exact ⟨K,A,B,N,S,e,a,b⟩
attribute [local irreducible] e9
set_option maxHeartbeats 4000000 in
theorem b8z (Inv:List (List PV)→Prop) (h0:Inv Z1) (Ok:Nat→List PV→Own→PV→Prop) (cells ops d5:List (List PV)) (hc:∀ r ∈ cells,a1W r)
 (h53:Ok y2 [.sl 1 [[.str b3j],[.str b3k]]] [(0,0)] (.sl 7 Z1))
 (h54:∀ K A B N S H,0≤A∧A<256→0≤B∧B<256→ -2147483648≤N∧N≤2147483647→a4J H→H.length<20→Inv H→∃ r,(a3c r∧Inv (H++[r]))∧Ok C8 [a1m K A B N S,.sl 7 H] [] (.agg r)):
 ∃ H,Inv H∧fnW wG Ok noX noT noT 0 a0a [.agg [.sl 5 cells,.sl 5 ops,.sl 1 d5]] (.sl 7 H):=by
 let n:=min cells.length 10
 have hnx:∀ p:Nat × List (List PV),∃ r:List PV,∀ row,cells[p.1]?=some row→(a4J p.2∧p.2.length<20∧Inv p.2)→(a3c r∧Inv (p.2++[r]))∧Ok C8 [.agg row,.sl 7 p.2] [] (.agg r):=by
  intro p
  by_cases hh:a4J p.2∧p.2.length<20∧Inv p.2
  ·cases hr:cells[p.1]? with
   | none=>exact ⟨[],fun _ h=>by cases h⟩
   | some row=>
     obtain ⟨K,A,B,N,S,rfl,hA,hB,hN⟩:=hc row (List.mem_of_getElem? hr)
     obtain ⟨r,h1,h2⟩:=h54 K A B N S p.2 hA hB hN hh.1 hh.2.1 hh.2.2
     exact ⟨r,fun _ e _=>by cases e;exact ⟨h1,h2⟩⟩
  ·exact ⟨[],fun _ _ h=>absurd h hh⟩
 obtain ⟨nxt,hnxt⟩:=Classical.axiomOfChoice hnx
 let hs:Nat→List (List PV):=fun i=>Nat.rec Z1 (fun i h=>h++[nxt (i,h)]) i
 have hsS:∀ i,hs (i+1)=hs i++[nxt (i,hs i)]:=fun i=>rfl
 have hok:∀ i,i≤n→(a4J (hs i)∧Inv (hs i))∧(hs i).length=10+i:=by
  intro i
  induction i with
  | zero=>intro _;exact ⟨⟨⟨[],rfl,by simp,b1M⟩,h0⟩,rfl⟩
  | succ i ih=>
    intro hi
    obtain ⟨⟨⟨more,e,hm,hall⟩,hI⟩,hl⟩:=ih (by omega)
    obtain ⟨row,hrow⟩:∃ row,cells[i]?=some row:=⟨_,List.getElem?_eq_getElem (by simp only [n] at hi;omega)⟩
    have hlt20:(hs i).length<20:=by simp only [n] at hi;omega
    obtain ⟨h1,h1I⟩:=(hnxt (i,hs i) row hrow ⟨⟨more,e,hm,hall⟩,hlt20,hI⟩).1
    rw [hsS]
    refine ⟨⟨⟨more++[nxt (i,hs i)],by rw [← List.append_assoc,← e],?_,?_⟩,h1I⟩,by simp;omega⟩
    ·have:(hs i).length=10+more.length:=by rw [e,List.length_append];rfl
     simp only [n] at hi
     simp;omega
    ·intro r hr
     rcases List.mem_append.1 hr with h | h
     ·exact hall r h
     ·simp only [List.mem_singleton] at h;subst h;exact h1
 refine ⟨hs n,(hok n (Nat.le_refl _)).1.2,?_⟩
 conv=>whnf
 refine ⟨_,_,h53,?_⟩
 conv=>whnf
 intro X hX _
 have key:∀ (m i:Nat) (s:St) (sl:Bool),i+m=n→norm [1,3,4] s=hSt cells ops d5 (i:Int) (10+i) (hs i) sl→X s:=by
  intro m
  induction m with
  | zero=>
    intro i s sl hi hs'
    refine w9 hX s ?_
    rw [hs']
    obtain rfl:i=n:=by omega
    have hl:=(hok n (Nat.le_refl _)).2
    generalize hs n=H at hl ⊢
    cases hlt:decide ((n:Int)<(cells.length:Int)) with
    | true=>
      have h10:decide ((n:Int)<10)=false:=by simp only [n,decide_eq_true_eq,decide_eq_false_iff_not] at hlt ⊢;omega
      conv=>whnf
      rw [hlt]
      conv=>whnf
      refine D9 h10 ?_
      conv=>whnf
      rw [List.drop_zero,← hl,List.take_length]
    | false=>
      conv=>whnf
      rw [hlt]
      conv=>whnf
      rw [List.drop_zero,← hl,List.take_length]
  | succ m ih=>
    intro i s sl hi hs'
    refine w9 hX s ?_
    rw [hs']
    have hin:i<cells.length∧i<10:=by simp only [n] at hi;omega
    have hlt:decide ((i:Int)<(cells.length:Int))=true:=by simp;omega
    have h10:decide ((i:Int)<10)=true:=by simp;omega
    obtain ⟨row,hrow⟩:∃ row,cells[i]?=some row:=⟨_,List.getElem?_eq_getElem (by omega)⟩
    have hw:IntKind.i64.wrap ((i:Int)+1)=((i+1:Nat):Int):=by rw [wrap_small (by omega) (by omega)];omega
    obtain ⟨hH,hl⟩:=hok i (by omega)
    have hlt20:(hs i).length<20:=by rw [hl];omega
    obtain ⟨⟨h1,_⟩,h2⟩:=hnxt (i,hs i) row hrow ⟨hH.1,hlt20,hH.2⟩
    have hgo:∀ s',norm [1,3,4] s'=hSt cells ops d5 (IntKind.i64.wrap ((i:Int)+1)) (10+i+1) (hs i++[nxt (i,hs i)]) true→X s':=fun s' h=>ih (i+1) s' true (by omega) (by rw [h,hw,hsS];rfl)
    obtain ⟨K,A,B,N,S,rfl,hA,hB,hN⟩:=hc row (List.mem_of_getElem? hrow)
    clear hs' ih hok
    simp only [] at h2
    generalize nxt (i,hs i)=r at h1 h2 hgo
    generalize hs i=H at h1 h2 hgo hl ⊢
    have hpub:H=(H.drop 0).take (10+i):=by rw [List.drop_zero,← hl,List.take_length]
    have h2':Ok C8 [a1m K A B N S,.sl 7 ((H.drop 0).take (10+i))] [] (.agg r):=by rw [← hpub];exact h2
    obtain ⟨q1,q2,q3,q4,q5,q6,q7,m1,m2,m3,rfl,_,c3,c4,c5⟩:=h1
    have hrow':cells[(i:Int).toNat]?=some [.int .u8 K,.int .u8 A,.int .u8 B,.int .i32 N,.str S]:=by simpa using hrow
    rcases c3 with ⟨rfl,_⟩ | ⟨r3,rfl,_⟩ <;>rcases c4 with ⟨rfl,_⟩ | ⟨r4,rfl,_⟩ <;>rcases c5 with ⟨rfl,_⟩ | ⟨r5,rfl,_⟩
    all_goals
     conv=>whnf
     rw [hlt]
     conv=>whnf
     refine v8 h10 ?_
     conv=>whnf
     refine j6 (e7 (rows:=cells) (j:=(i:Int)) (by rfl) (by rfl) (by omega) hrow') ?_
     conv=>whnf
     refine ⟨_,_,h2',?_⟩
     conv=>whnf
     refine j6 (M1 (L:=H) (c:=10+i) (sl:=true) (xs:=[[.int .i64 q1,.str q2,_,_,_,.int .i64 q6,.int .i64 q7]]) (by rfl) hl (by rfl) (by rfl) (by simp;omega)) ?_
     conv=>whnf
     exact hgo _ rfl
 exact key n 0 _ false (by omega) rfl
end Go.Ab.Td
