/- A part of the proof: the texts TdVc, TdVd, TdKe, TdKg, TdKi, TdKj, TdKk. Under: nothing. -/
import Derived.Test.YtomfaadmmchdcaaDoorG38
import Derived.Test.YtomfaadmmchdcaaDoorG20
import Derived.Test.YtomfaadmmchdcaaDoorG14
import Derived.Test.YtomfaadmmchdcaaDoorG05
import Derived.Test.YtomfaadmmchdcaaDoorG27
set_option linter.unusedVariables false
namespace Go.Ab.Td
set_option maxRecDepth 100000
set_option maxRecDepth 100000
open Go Go.Ab
attribute [local irreducible] g8
set_option maxHeartbeats 4000000 in
theorem c5g (F:List PV→Prop) (Ok:Nat→List PV→Own→PV→Prop) (rows:List (List PV)) (K A B N:Int) (S:List UInt8) (hA:0≤A∧A<256) (hB:0≤B∧B<256) (hN: -2147483648≤N∧N≤2147483647)
 (hO:∀ K' A' B' N' S',0≤A'∧A'<256→0≤B'∧B'<256→ -2147483648≤N'∧N'≤2147483647→∃ r,(F r∧a2Y r)∧Ok n5 [a1i K' A' B' N' S',.sl 7 rows] [] (.agg r))
 (h65:∀ n,Ok s0 [.int .i64 n] [] (b5Y n)) (h66:∀ s,Ok A5 [.str s] [] (b6t s))
 (h0:(K.tmod 5==0)=false) (h1:(K.tmod 5==1)=false) (h2:(K.tmod 5==2)=false) (h3:(K.tmod 5==3)=true):∃ r,b0s F r∧fnW wG Ok noX noT noT 0 y8 [a1i K A B N S,.sl 7 rows] (.agg r):=by
 have hm:0≤(if (40:Int)<S.length then (40:Int) else (S.length:Int))∧(if (40:Int)<S.length then (40:Int) else (S.length:Int))≤S.length:=by split <;>omega
 obtain ⟨f,hf⟩:=Classical.axiomOfChoice (fun i:Nat=>hO _ _ N [] (b2Z (A+IntKind.u8.wrap (i:Int))) hB hN (K':=IntKind.u8.wrap (B+IntKind.u8.wrap (IntKind.i64.wrap (3*(i:Int))))))
 obtain ⟨a,ha⟩:∃ a:Nat,A.tmod 6=a:=⟨(A.tmod 6).toNat,by have:=Int.tmod_nonneg 6 hA.1;omega⟩
 have ha6:a<6:=by have:=Int.tmod_lt_of_pos A (show (0:Int)<6 by decide);omega
 have hw:IntKind.i64.wrap (A.tmod 6)=a:=by rw [ha,wrap_small (by omega) (by omega)]
 obtain ⟨b,hb⟩:∃ b:Nat,B.tmod 4=b:=⟨(B.tmod 4).toNat,by have:=Int.tmod_nonneg 4 hB.1;omega⟩
 have hb4:b<4:=by have:=Int.tmod_lt_of_pos B (show (0:Int)<4 by decide);omega
 have hwb:IntKind.i64.wrap (B.tmod 4)=b:=by rw [hb,wrap_small (by omega) (by omega)]
 let n:=min a b
 let g:Nat→List PV:=fun i=>a7D (a6N (i:Int))
 let vs:List (List PV):=(List.range n).map f
 let ks:List (List PV):=(List.range n).map g
 refine ⟨[.int .i64 3,.str [],.emp 7,match vs with | []=>.emp 7 | _::_=>.sl 7 ((ks.drop 0).take n),match vs with | []=>.emp 7 | x::L=>.sl 7 (((x::L).drop 0).take n),.int .i64 (IntKind.i64.wrap (A.tmod 6)),.int .i64 0],?_,?_⟩
 ·have hit:∀ x ∈ vs,F x:=by
   intro x hx
   obtain ⟨i,_,rfl⟩:=List.mem_map.1 hx
   exact (hf i).1.1
  have hil:vs.length=n:=by simp [vs]
  have hkl:ks.length=n:=by simp [ks]
  have hn:n≤a:=by simp only [n];omega
  refine .inr (.inr (.inl ⟨_,_,n,a,hn,by omega,?_,?_,by rw [hw]⟩))
  ·revert hit hil
   generalize vs=L
   intro hit hil
   cases L with
   | nil=>exact .inl ⟨rfl,by simpa using hil.symm⟩
   | cons x L=>
     refine .inr ?_
     show PV.sl 7 ((ks.drop 0).take n)=PV.sl 7 ks
     rw [List.drop_zero,← hkl,List.take_length]
  ·revert hit hil
   generalize vs=L
   intro hit hil
   cases L with
   | nil=>exact .inl ⟨rfl,by simpa using hil.symm⟩
   | cons x L=>
     refine .inr ⟨_,rfl,?_,?_⟩
     ·simp only [List.drop_zero,List.length_take];omega
     ·intro y hy
      exact hit y (List.mem_of_mem_take (by simpa using hy))
 ·have h65':=h65 (IntKind.i64.wrap (A.tmod 6))
  conv=>whnf
  refine m0 (a4V (s:=S) (h:=if (40:Int)<S.length then (40:Int) else (S.length:Int)) (by rfl) (by rfl) hm.1 hm.2) ?_
  conv=>whnf
  refine F5 h0 ?_
  conv=>whnf
  refine F5 h1 ?_
  conv=>whnf
  refine F5 h2 ?_
  conv=>whnf
  refine y7 h3 ?_
  conv=>whnf
  refine ⟨_,_,h65',?_⟩
  conv=>whnf
  intro X hX _
  have key:∀ (m i:Nat) (s:St),i+m=n→norm [1,2,4,9,10] s=dSt rows K A B N S (IntKind.i64.wrap (A.tmod 6)) (i:Int) i ((List.range i).map g) ((List.range i).map f)→X s:=by
   intro m
   induction m with
   | zero=>
     intro i s hi hs
     refine z8 hX s ?_
     rw [hs]
     have hia:i=n:=by omega
     subst hia
     have hlt2:decide ((n:Int)<IntKind.i64.wrap (B.tmod 4))=true→decide ((n:Int)<IntKind.i64.wrap (A.tmod 6))=false:=by rw [hw,hwb];simp only [n,decide_eq_true_eq,decide_eq_false_iff_not];omega
     show aw wG Ok _ true _ _ (dSt rows K A B N S (IntKind.i64.wrap (A.tmod 6)) (n:Int) n ks vs)
     generalize IntKind.i64.wrap (A.tmod 6)=am at hlt2 ⊢
     generalize vs=L
     cases hlt:decide ((n:Int)<IntKind.i64.wrap (B.tmod 4)) with
     | true=>
       have hlt3:=hlt2 hlt
       cases L with
       | nil=>
         conv=>whnf
         rw [hlt]
         conv=>whnf
         refine F5 hlt3 ?_
         conv=>whnf
       | cons x L=>
         conv=>whnf
         rw [hlt]
         conv=>whnf
         refine F5 hlt3 ?_
         conv=>whnf
     | false=>
       cases L with
       | nil=>
         conv=>whnf
         rw [hlt]
         conv=>whnf
       | cons x L=>
         conv=>whnf
         rw [hlt]
         conv=>whnf
   | succ m ih=>
     intro i s hi hs
     refine z8 hX s ?_
     rw [hs]
     have hin:i<a∧i<b:=by simp only [n] at hi;omega
     obtain ⟨⟨_,q1,q2,q3,q4,q5,q6,q7,hqn,hfi⟩,hp⟩:=hf i
     have hltA:decide ((i:Int)<IntKind.i64.wrap (A.tmod 6))=true:=by rw [hw];simp;omega
     have hltB:decide ((i:Int)<IntKind.i64.wrap (B.tmod 4))=true:=by rw [hwb];simp;omega
     have hnextf:(List.range (i+1)).map f=(List.range i).map f++[f i]:=by simp [List.range_succ]
     have hnextg:(List.range (i+1)).map g=(List.range i).map g++[a7D (a6N (i:Int))]:=by simp [List.range_succ,g]
     have hw1:IntKind.i64.wrap ((i:Int)+1)=((i+1:Nat):Int):=by rw [wrap_small (by omega) (by omega)];omega
     have hgo:∀ s',norm [1,2,4,9,10] s'=dSt rows K A B N S (IntKind.i64.wrap (A.tmod 6)) (IntKind.i64.wrap ((i:Int)+1)) (i+1) ((List.range i).map g++[a7D (a6N (i:Int))]) ((List.range i).map f++[f i])→X s':=fun s' h=>ih (i+1) s' (by omega) (by rw [h,hw1,hnextf,hnextg])
     have hlen:((List.range i).map f).length=i:=by simp
     have hlenk:((List.range i).map g).length=i:=by simp
     obtain ⟨wl,hwl⟩:=c0w (i:=(i:Int)) (by omega) (by omega)
     clear hnextf hnextg ih hs
     rw [hfi] at hgo hp
     generalize IntKind.i64.wrap (A.tmod 6)=am at hltA hgo ⊢
     generalize (List.range i).map f=L at hgo hlen ⊢
     generalize (List.range i).map g=Lk at hgo hlenk ⊢
     cases L with
     | nil=>
       simp only [List.length_nil] at hlen
       subst hlen
       obtain rfl:=List.length_eq_zero_iff.1 hlenk
       conv=>whnf
       rw [hltB]
       conv=>whnf
       refine y7 hltA ?_
       conv=>whnf
       refine ⟨_,_,h66 _,?_⟩
       conv=>whnf
       refine y7 (by kernel_rfl) ?_
       conv=>whnf
       refine ⟨_,_,hp,?_⟩
       conv=>whnf
       refine y7 (by kernel_rfl) ?_
       conv=>whnf
       exact hgo _ rfl
     | cons x L=>
       conv=>whnf
       rw [hltB]
       conv=>whnf
       refine y7 hltA ?_
       conv=>whnf
       refine m0 (b4g (cs:=b0q) (by rfl) (by rfl) (by omega) (by omega)) ?_
       conv=>whnf
       refine m0 (b6o (by rfl) hwl) ?_
       conv=>whnf
       refine ⟨_,_,h66 _,?_⟩
       conv=>whnf
       refine m0 (N3 (L:=Lk) (c:=i) (xs:=[a7D (a6N (i:Int))]) (by rfl) hlenk (by rfl) (by rfl) (by simp;omega)) ?_
       conv=>whnf
       refine y7 (by kernel_rfl) ?_
       conv=>whnf
       refine ⟨_,_,hp,?_⟩
       conv=>whnf
       refine m0 (N3 (L:=x::L) (c:=i) (xs:=[[.int .i64 q1,.bool q2,.int .i64 q3,.str q4,.int .i64 q5,.int .i64 q6,.int .i64 q7]]) (by rfl) hlen (by rfl) (by rfl) (by simp;omega)) ?_
       conv=>whnf
       refine y7 (by kernel_rfl) ?_
       conv=>whnf
       exact hgo _ rfl
  exact key n 0 _ (by omega) rfl
end Go.Ab.Td
namespace Go.Ab.Td
set_option maxRecDepth 100000
set_option maxRecDepth 100000
open Go Go.Ab
theorem b9j (F:List PV→Prop) (Ok:Nat→List PV→Own→PV→Prop) (rows:List (List PV)) (K A B N:Int) (S:List UInt8) (hA:0≤A∧A<256) (hB:0≤B∧B<256) (hN: -2147483648≤N∧N≤2147483647)
 (hO:∀ K' A' B' N' S',0≤A'∧A'<256→0≤B'∧B'<256→ -2147483648≤N'∧N'≤2147483647→∃ r,(F r∧a2Y r)∧Ok n5 [a1i K' A' B' N' S',.sl 7 rows] [] (.agg r))
 (h65:∀ n,Ok s0 [.int .i64 n] [] (b5Y n)) (h66:∀ s,Ok A5 [.str s] [] (b6t s)):∃ r,b0s F r∧fnW wG Ok noX noT noT 0 y8 [a1i K A B N S,.sl 7 rows] (.agg r):=by
 cases h0:(K.tmod 5==0) with
 | true=>exact c5d F Ok rows K A B N S hA hB hO h65 h66 h0
 | false=>
   cases h1:(K.tmod 5==1) with
   | true=>exact c5e F Ok rows K A B N S hA hB hO h65 h66 h0 h1
   | false=>
     cases h2:(K.tmod 5==2) with
     | true=>exact c5f F Ok rows K A B N S hA hO h0 h1 h2
     | false=>
       cases h3:(K.tmod 5==3) with
       | true=>exact c5g F Ok rows K A B N S hA hB hN hO h65 h66 h0 h1 h2 h3
       | false=>exact c5h F Ok rows K A B N S hA hB hO h65 h66 h0 h1 h2 h3
def a4A (r:List PV):Prop:=∃ K A B N S,r=[.int .u8 K,.int .u8 A,.int .u8 B,.int .i32 N,.str S]∧(0≤A∧A<256)∧(0≤B∧B<256)∧(-2147483648≤N∧N≤2147483647)
theorem a4A.r {r:List PV} (h:a4A r):c6u r:=by
 obtain ⟨K,A,B,N,S,e,a,b,_⟩:=h
 exact ⟨K,A,B,N,S,e,a,b⟩
attribute [local irreducible] g8
set_option maxHeartbeats 4000000 in
theorem b9u (Inv:List (List PV)→Prop) (h0:Inv Y3) (Ok:Nat→List PV→Own→PV→Prop) (cells ops j8:List (List PV)) (hc:∀ r ∈ cells,a4A r)
 (h53:Ok B3 [.sl 1 [[.str b3J],[.str b3K]]] [(0,0)] (.sl 7 Y3))
 (h54:∀ K A B N S H,0≤A∧A<256→0≤B∧B<256→ -2147483648≤N∧N≤2147483647→a4y H→H.length<20→Inv H→∃ r,(a2X r∧Inv (H++[r]))∧Ok E4 [a1i K A B N S,.sl 7 H] [] (.agg r)):
 ∃ H,Inv H∧fnW wG Ok noX noT noT 0 Z1 [.agg [.sl 5 cells,.sl 5 ops,.sl 1 j8]] (.sl 7 H):=by
 let n:=min cells.length 10
 have hnx:∀ p:Nat × List (List PV),∃ r:List PV,∀ row,cells[p.1]?=some row→(a4y p.2∧p.2.length<20∧Inv p.2)→(a2X r∧Inv (p.2++[r]))∧Ok E4 [.agg row,.sl 7 p.2] [] (.agg r):=by
  intro p
  by_cases hh:a4y p.2∧p.2.length<20∧Inv p.2
  ·cases hr:cells[p.1]? with
   | none=>exact ⟨[],fun _ h=>by cases h⟩
   | some row=>
     obtain ⟨K,A,B,N,S,rfl,hA,hB,hN⟩:=hc row (List.mem_of_getElem? hr)
     obtain ⟨r,h1,h2⟩:=h54 K A B N S p.2 hA hB hN hh.1 hh.2.1 hh.2.2
     exact ⟨r,fun _ e _=>by cases e;exact ⟨h1,h2⟩⟩
  ·exact ⟨[],fun _ _ h=>absurd h hh⟩
 obtain ⟨nxt,hnxt⟩:=Classical.axiomOfChoice hnx
 let hs:Nat→List (List PV):=fun i=>Nat.rec Y3 (fun i h=>h++[nxt (i,h)]) i
 have hsS:∀ i,hs (i+1)=hs i++[nxt (i,hs i)]:=fun i=>rfl
 have hok:∀ i,i≤n→(a4y (hs i)∧Inv (hs i))∧(hs i).length=10+i:=by
  intro i
  induction i with
  | zero=>intro _;exact ⟨⟨⟨[],rfl,by simp,b1X⟩,h0⟩,rfl⟩
  | succ i ih=>
    intro hi
    obtain ⟨⟨⟨more,e,hm,hall⟩,hI⟩,hl⟩:=ih (by omega)
    obtain ⟨row,hrow⟩:∃ row,cells[i]?=some row:=⟨_,List.getElem?_eq_getElem (by simp only [n] at hi;omega)⟩
    have hlt20:(hs i).length<20:=by simp only [n] at hi;omega
    obtain ⟨h1,h1I⟩:=(hnxt (i,hs i) row hrow ⟨⟨more,e,hm,hall⟩,hlt20,hI⟩).1
    rw [hsS]
    refine ⟨⟨⟨more++[nxt (i,hs i)],by rw [← List.append_assoc,← e],?_,?_⟩,h1I⟩,by simp;omega⟩
    ·have:(hs i).length=10+more.length:=by rw [e,List.length_append];rfl
     simp only [n] at hi
     simp;omega
    ·intro r hr
     rcases List.mem_append.1 hr with h | h
     ·exact hall r h
     ·simp only [List.mem_singleton] at h;subst h;exact h1
 refine ⟨hs n,(hok n (Nat.le_refl _)).1.2,?_⟩
 conv=>whnf
 refine ⟨_,_,h53,?_⟩
 conv=>whnf
 intro X hX _
 have key:∀ (m i:Nat) (s:St) (sl:Bool),i+m=n→norm [1,3,4] s=hSt cells ops j8 (i:Int) (10+i) (hs i) sl→X s:=by
  intro m
  induction m with
  | zero=>
    intro i s sl hi hs'
    refine z8 hX s ?_
    rw [hs']
    obtain rfl:i=n:=by omega
    have hl:=(hok n (Nat.le_refl _)).2
    generalize hs n=H at hl ⊢
    cases hlt:decide ((n:Int)<(cells.length:Int)) with
    | true=>
      have h10:decide ((n:Int)<10)=false:=by simp only [n,decide_eq_true_eq,decide_eq_false_iff_not] at hlt ⊢;omega
      conv=>whnf
      rw [hlt]
      conv=>whnf
      refine F5 h10 ?_
      conv=>whnf
      rw [List.drop_zero,← hl,List.take_length]
    | false=>
      conv=>whnf
      rw [hlt]
      conv=>whnf
      rw [List.drop_zero,← hl,List.take_length]
  | succ m ih=>
    intro i s sl hi hs'
    refine z8 hX s ?_
    rw [hs']
    have hin:i<cells.length∧i<10:=by simp only [n] at hi;omega
    have hlt:decide ((i:Int)<(cells.length:Int))=true:=by simp;omega
    have h10:decide ((i:Int)<10)=true:=by simp;omega
    obtain ⟨row,hrow⟩:∃ row,cells[i]?=some row:=⟨_,List.getElem?_eq_getElem (by omega)⟩
    have hw:IntKind.i64.wrap ((i:Int)+1)=((i+1:Nat):Int):=by rw [wrap_small (by omega) (by omega)];omega
    obtain ⟨hH,hl⟩:=hok i (by omega)
    have hlt20:(hs i).length<20:=by rw [hl];omega
    obtain ⟨⟨h1,_⟩,h2⟩:=hnxt (i,hs i) row hrow ⟨hH.1,hlt20,hH.2⟩
    have hgo:∀ s',norm [1,3,4] s'=hSt cells ops j8 (IntKind.i64.wrap ((i:Int)+1)) (10+i+1) (hs i++[nxt (i,hs i)]) true→X s':=fun s' h=>ih (i+1) s' true (by omega) (by rw [h,hw,hsS];rfl)
    obtain ⟨K,A,B,N,S,rfl,hA,hB,hN⟩:=hc row (List.mem_of_getElem? hrow)
    clear hs' ih hok
    simp only [] at h2
    generalize nxt (i,hs i)=r at h1 h2 hgo
    generalize hs i=H at h1 h2 hgo hl ⊢
    have hpub:H=(H.drop 0).take (10+i):=by rw [List.drop_zero,← hl,List.take_length]
    have h2':Ok E4 [a1i K A B N S,.sl 7 ((H.drop 0).take (10+i))] [] (.agg r):=by rw [← hpub];exact h2
    obtain ⟨q1,q2,q3,q4,q5,q6,q7,m1,m2,m3,rfl,_,c3,c4,c5⟩:=h1
    have hrow':cells[(i:Int).toNat]?=some [.int .u8 K,.int .u8 A,.int .u8 B,.int .i32 N,.str S]:=by simpa using hrow
    rcases c3 with ⟨rfl,_⟩ | ⟨r3,rfl,_⟩ <;>rcases c4 with ⟨rfl,_⟩ | ⟨r4,rfl,_⟩ <;>rcases c5 with ⟨rfl,_⟩ | ⟨r5,rfl,_⟩
    all_goals
     conv=>whnf
     rw [hlt]
     conv=>whnf
     refine y7 h10 ?_
     conv=>whnf
     refine m0 (e9 (rows:=cells) (j:=(i:Int)) (by rfl) (by rfl) (by omega) hrow') ?_
     conv=>whnf
     refine ⟨_,_,h2',?_⟩
     conv=>whnf
     refine m0 (N3 (L:=H) (c:=10+i) (sl:=true) (xs:=[[.int .i64 q1,.str q2,_,_,_,.int .i64 q6,.int .i64 q7]]) (by rfl) hl (by rfl) (by rfl) (by simp;omega)) ?_
     conv=>whnf
     exact hgo _ rfl
 exact key n 0 _ false (by omega) rfl
end Go.Ab.Td
namespace Go.Ab.Td
set_option maxRecDepth 100000
set_option maxRecDepth 100000
open Go Go.Ab
variable {P:Program}
set_option linter.unusedSimpArgs false
attribute [local irreducible] g8
theorem a6S (k:Ob):∀ (l:List Ob) (i:Nat),(0≤i6 k i l)↔k ∈ l
 | [],i=>by simp [i6]
 | x::l,i=>by
   unfold i6
   split
   ·rename_i h;simp [h]
   ·rename_i h
    rw [a6S k l (i+1)]
    simp only [List.mem_cons]
    constructor
    ·exact .inr
    ·rintro (e | e)
     ·exact absurd e.symm h
     ·exact e
def x8 (g:Nat):Option u0:=match Nat.beq g C9 with | true=>some F7 | false=>none
def c1u (c:Cl):List (List Ob):=[c.items,c.keys,c.p8]
end Go.Ab.Td
namespace Go.Ab.Td
set_option maxRecDepth 100000
open Go Go.Ab
variable {P:Program}
set_option linter.unusedSimpArgs false
attribute [local irreducible] g8
end Go.Ab.Td
namespace Go.Ab.Td
set_option maxRecDepth 100000
open Go Go.Ab
variable {P:Program}
set_option linter.unusedSimpArgs false
attribute [local irreducible] g8
end Go.Ab.Td
namespace Go.Ab.Td
set_option maxRecDepth 100000
open Go Go.Ab
variable {P:Program}
set_option linter.unusedSimpArgs false
attribute [local irreducible] g8
end Go.Ab.Td
namespace Go.Ab.Td
set_option maxRecDepth 100000
open Go Go.Ab
variable {P:Program}
set_option linter.unusedSimpArgs false
attribute [local irreducible] g8
def c8Y (l:List Ob) (i:Nat) (k:Ob):Prop:=k.kind≠0∧k.kind≠6∧k.key=k∧(i:Int)≤i6 k 0 l
def b8A (l:List Ob):Prop:=∀ (i:Nat) (k:Ob),l[i]?=some k→c8Y l i k
end Go.Ab.Td
