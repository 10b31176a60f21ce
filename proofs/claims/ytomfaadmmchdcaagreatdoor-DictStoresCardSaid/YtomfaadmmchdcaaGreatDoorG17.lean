/- A part of the proof: the texts TdVd, TdKe, TdKg, TdKi, TdRA, TdRB, TdRC, TdRD, TdRE, TdRF, TdRG, TdRH, TdRI, TdKj, TdKk, TdKl, TdKm. Under: nothing. -/
import Derived.Test.YtomfaadmmchdcaaGreatDoorG16
import Derived.Test.YtomfaadmmchdcaaGreatDoorG12
import Derived.Test.YtomfaadmmchdcaaGreatDoorG05
import Derived.Test.YtomfaadmmchdcaaGreatDoorG13
set_option linter.unusedVariables false
namespace Go.Ab.Td
set_option maxRecDepth 100000
set_option maxRecDepth 100000
open Go Go.Ab
theorem b8p (F:List PV→Prop) (Ok:Nat→List PV→Own→PV→Prop) (rows:List (List PV)) (K A B N:Int) (S:List UInt8) (hA:0≤A∧A<256) (hB:0≤B∧B<256) (hN: -2147483648≤N∧N≤2147483647)
 (hO:∀ K' A' B' N' S',0≤A'∧A'<256→0≤B'∧B'<256→ -2147483648≤N'∧N'≤2147483647→∃ r,(F r∧a3A r)∧Ok j1 [a1m K' A' B' N' S',.sl 7 rows] [] (.agg r))
 (h65:∀ n,Ok n5 [.int .i64 n] [] (b5j n)) (h66:∀ s,Ok x5 [.str s] [] (b5D s)):∃ r,b0x F r∧fnW wG Ok noX noT noT 0 w7 [a1m K A B N S,.sl 7 rows] (.agg r):=by
 cases h0:(K.tmod 5==0) with
 | true=>exact c4h F Ok rows K A B N S hA hB hO h65 h66 h0
 | false=>
   cases h1:(K.tmod 5==1) with
   | true=>exact c4i F Ok rows K A B N S hA hB hO h65 h66 h0 h1
   | false=>
     cases h2:(K.tmod 5==2) with
     | true=>exact c4j F Ok rows K A B N S hA hO h0 h1 h2
     | false=>
       cases h3:(K.tmod 5==3) with
       | true=>exact c4k F Ok rows K A B N S hA hB hN hO h65 h66 h0 h1 h2 h3
       | false=>exact c4l F Ok rows K A B N S hA hB hO h65 h66 h0 h1 h2 h3
def a1W (r:List PV):Prop:=∃ K A B N S,r=[.int .u8 K,.int .u8 A,.int .u8 B,.int .i32 N,.str S]∧(0≤A∧A<256)∧(0≤B∧B<256)∧(-2147483648≤N∧N≤2147483647)
theorem a1W.r {r:List PV} (h:a1W r):c5s r:=by
 obtain ⟨K,A,B,N,S,e,a,b,_⟩:=h
 exact ⟨K,A,B,N,S,e,a,b⟩
attribute [local irreducible] e9
set_option maxHeartbeats 4000000 in
theorem b8z (Inv:List (List PV)→Prop) (h0:Inv Z1) (Ok:Nat→List PV→Own→PV→Prop) (cells ops d5:List (List PV)) (hc:∀ r ∈ cells,a1W r)
 (h53:Ok y2 [.sl 1 [[.str b3j],[.str b3k]]] [(0,0)] (.sl 7 Z1))
 (h54:∀ K A B N S H,0≤A∧A<256→0≤B∧B<256→ -2147483648≤N∧N≤2147483647→a4J H→H.length<20→Inv H→∃ r,(a3c r∧Inv (H++[r]))∧Ok C8 [a1m K A B N S,.sl 7 H] [] (.agg r)):
 ∃ H,Inv H∧fnW wG Ok noX noT noT 0 a0a [.agg [.sl 5 cells,.sl 5 ops,.sl 1 d5]] (.sl 7 H):=by
 let n:=min cells.length 10
 have hnx:∀ p:Nat × List (List PV),∃ r:List PV,∀ row,cells[p.1]?=some row→(a4J p.2∧p.2.length<20∧Inv p.2)→(a3c r∧Inv (p.2++[r]))∧Ok C8 [.agg row,.sl 7 p.2] [] (.agg r):=by
  intro p
  by_cases hh:a4J p.2∧p.2.length<20∧Inv p.2
  ·cases hr:cells[p.1]? with
   | none=>exact ⟨[],fun _ h=>by cases h⟩
   | some row=>
     obtain ⟨K,A,B,N,S,rfl,hA,hB,hN⟩:=hc row (List.mem_of_getElem? hr)
     obtain ⟨r,h1,h2⟩:=h54 K A B N S p.2 hA hB hN hh.1 hh.2.1 hh.2.2
     exact ⟨r,fun _ e _=>by cases e;exact ⟨h1,h2⟩⟩
  ·exact ⟨[],fun _ _ h=>absurd h hh⟩
 obtain ⟨nxt,hnxt⟩:=Classical.axiomOfChoice hnx
 let hs:Nat→List (List PV):=fun i=>Nat.rec Z1 (fun i h=>h++[nxt (i,h)]) i
 have hsS:∀ i,hs (i+1)=hs i++[nxt (i,hs i)]:=fun i=>rfl
 have hok:∀ i,i≤n→(a4J (hs i)∧Inv (hs i))∧(hs i).length=10+i:=by
  intro i
  induction i with
  | zero=>intro _;exact ⟨⟨⟨[],rfl,by simp,b1M⟩,h0⟩,rfl⟩
  | succ i ih=>
    intro hi
    obtain ⟨⟨⟨more,e,hm,hall⟩,hI⟩,hl⟩:=ih (by omega)
    obtain ⟨row,hrow⟩:∃ row,cells[i]?=some row:=⟨_,List.getElem?_eq_getElem (by simp only [n] at hi;omega)⟩
    have hlt20:(hs i).length<20:=by simp only [n] at hi;omega
    obtain ⟨h1,h1I⟩:=(hnxt (i,hs i) row hrow ⟨⟨more,e,hm,hall⟩,hlt20,hI⟩).1
    rw [hsS]
    refine ⟨⟨⟨more++[nxt (i,hs i)],by rw [← List.append_assoc,← e],?_,?_⟩,h1I⟩,by simp;omega⟩
    ·have:(hs i).length=10+more.length:=by rw [e,List.length_append];rfl
     simp only [n] at hi
     simp;omega
    ·intro r hr
     rcases List.mem_append.1 hr with h | h
     ·exact hall r h
     ·simp only [List.mem_singleton] at h;subst h;exact h1
 refine ⟨hs n,(hok n (Nat.le_refl _)).1.2,?_⟩
 conv=>whnf
 refine ⟨_,_,h53,?_⟩
 conv=>whnf
 intro X hX _
 have key:∀ (m i:Nat) (s:St) (sl:Bool),i+m=n→norm [1,3,4] s=hSt cells ops d5 (i:Int) (10+i) (hs i) sl→X s:=by
  intro m
  induction m with
  | zero=>
    intro i s sl hi hs'
    refine w9 hX s ?_
    rw [hs']
    obtain rfl:i=n:=by omega
    have hl:=(hok n (Nat.le_refl _)).2
    generalize hs n=H at hl ⊢
    cases hlt:decide ((n:Int)<(cells.length:Int)) with
    | true=>
      have h10:decide ((n:Int)<10)=false:=by simp only [n,decide_eq_true_eq,decide_eq_false_iff_not] at hlt ⊢;omega
      conv=>whnf
      rw [hlt]
      conv=>whnf
      refine D9 h10 ?_
      conv=>whnf
      rw [List.drop_zero,← hl,List.take_length]
    | false=>
      conv=>whnf
      rw [hlt]
      conv=>whnf
      rw [List.drop_zero,← hl,List.take_length]
  | succ m ih=>
    intro i s sl hi hs'
    refine w9 hX s ?_
    rw [hs']
    have hin:i<cells.length∧i<10:=by simp only [n] at hi;omega
    have hlt:decide ((i:Int)<(cells.length:Int))=true:=by simp;omega
    have h10:decide ((i:Int)<10)=true:=by simp;omega
    obtain ⟨row,hrow⟩:∃ row,cells[i]?=some row:=⟨_,List.getElem?_eq_getElem (by omega)⟩
    have hw:IntKind.i64.wrap ((i:Int)+1)=((i+1:Nat):Int):=by rw [wrap_small (by omega) (by omega)];omega
    obtain ⟨hH,hl⟩:=hok i (by omega)
    have hlt20:(hs i).length<20:=by rw [hl];omega
    obtain ⟨⟨h1,_⟩,h2⟩:=hnxt (i,hs i) row hrow ⟨hH.1,hlt20,hH.2⟩
    have hgo:∀ s',norm [1,3,4] s'=hSt cells ops d5 (IntKind.i64.wrap ((i:Int)+1)) (10+i+1) (hs i++[nxt (i,hs i)]) true→X s':=fun s' h=>ih (i+1) s' true (by omega) (by rw [h,hw,hsS];rfl)
    obtain ⟨K,A,B,N,S,rfl,hA,hB,hN⟩:=hc row (List.mem_of_getElem? hrow)
    clear hs' ih hok
    simp only [] at h2
    generalize nxt (i,hs i)=r at h1 h2 hgo
    generalize hs i=H at h1 h2 hgo hl ⊢
    have hpub:H=(H.drop 0).take (10+i):=by rw [List.drop_zero,← hl,List.take_length]
    have h2':Ok C8 [a1m K A B N S,.sl 7 ((H.drop 0).take (10+i))] [] (.agg r):=by rw [← hpub];exact h2
    obtain ⟨q1,q2,q3,q4,q5,q6,q7,m1,m2,m3,rfl,_,c3,c4,c5⟩:=h1
    have hrow':cells[(i:Int).toNat]?=some [.int .u8 K,.int .u8 A,.int .u8 B,.int .i32 N,.str S]:=by simpa using hrow
    rcases c3 with ⟨rfl,_⟩ | ⟨r3,rfl,_⟩ <;>rcases c4 with ⟨rfl,_⟩ | ⟨r4,rfl,_⟩ <;>rcases c5 with ⟨rfl,_⟩ | ⟨r5,rfl,_⟩
    all_goals
     conv=>whnf
     rw [hlt]
     conv=>whnf
     refine v8 h10 ?_
     conv=>whnf
     refine j6 (e7 (rows:=cells) (j:=(i:Int)) (by rfl) (by rfl) (by omega) hrow') ?_
     conv=>whnf
     refine ⟨_,_,h2',?_⟩
     conv=>whnf
     refine j6 (M1 (L:=H) (c:=10+i) (sl:=true) (xs:=[[.int .i64 q1,.str q2,_,_,_,.int .i64 q6,.int .i64 q7]]) (by rfl) hl (by rfl) (by rfl) (by simp;omega)) ?_
     conv=>whnf
     exact hgo _ rfl
 exact key n 0 _ false (by omega) rfl
end Go.Ab.Td
namespace Go.Ab.Td
set_option maxRecDepth 100000
set_option maxRecDepth 100000
open Go Go.Ab
variable {P:Program}
set_option linter.unusedSimpArgs false
attribute [local irreducible] e9
theorem a6Y (k:Ob):∀ (l:List Ob) (i:Nat),(0≤i3 k i l)↔k ∈ l
 | [],i=>by simp [i3]
 | x::l,i=>by
   unfold i3
   split
   ·rename_i h;simp [h]
   ·rename_i h
    rw [a6Y k l (i+1)]
    simp only [List.mem_cons]
    constructor
    ·exact .inr
    ·rintro (e | e)
     ·exact absurd e.symm h
     ·exact e
def x9 (g:Nat):Option n6:=match Nat.beq g L3 with | true=>some K7 | false=>none
def c0F (c:Cl):List (List Ob):=[c.items,c.keys,c.B2]
end Go.Ab.Td
namespace Go.Ab.Td
set_option maxRecDepth 100000
open Go Go.Ab
variable {P:Program}
set_option linter.unusedSimpArgs false
attribute [local irreducible] e9
end Go.Ab.Td
namespace Go.Ab.Td
set_option maxRecDepth 100000
open Go Go.Ab
variable {P:Program}
set_option linter.unusedSimpArgs false
attribute [local irreducible] e9
end Go.Ab.Td
namespace Go.Ab.Td
set_option maxRecDepth 100000
set_option maxRecDepth 100000
open Go Go.Ab
variable {P:Program}
set_option linter.unusedSimpArgs false
attribute [local irreducible] e9
set_option maxHeartbeats 1000000 in
theorem a4D (C:Laid P) (h:List Cl) (d k:Ob) (h0:0≤d.ref) (h1:d.ref<h.length) (hs:small h):l3 P G a0V [.sl 7 (List.map j8 h),aO d,aO k] [] (.o0 [aO ((look (cellAt h d) k).getD V8),.bool (look (cellAt h d) k).isSome]):=by
 refine k8 C (b4y C) rfl ?_
 have hsm:=a9C hs d
 obtain ⟨hm1,hm2,hm3,hm4⟩:=hsm
 have hl:=b3E (cellAt h d) k
 have hcl:((h[d.ref.toNat]?).getD cl0)=cellAt h d:=rfl
 repeat' ((conv=>whnf);first | (with_reducible refine sC (by kernel_rfl) ?_) | ((with_reducible refine sB ?_);first | refine Or.inl ⟨by first | assumption | (simp only [nm,List.length_map,hcl];first | done | assumption | omega),?_⟩ | refine Or.inr (Or.inl ⟨by first | assumption | (simp only [nm,List.length_map,hcl];first | done | assumption | omega),?_⟩) | (refine Or.inr (Or.inr ⟨fun hsp=>?_,fun hsp=>?_⟩) <;>(try simp only [nm,List.length_map,hcl] at hsp) <;>try subst hsp)) | ((with_reducible refine z7 ?_);first | refine Or.inl ⟨by first | assumption | (simp only [nm,List.length_map,hcl];first | done | assumption | omega),?_⟩ | refine Or.inr (Or.inl ⟨by first | assumption | (simp only [nm,List.length_map,hcl];first | done | assumption | omega),?_⟩) | (refine Or.inr (Or.inr ⟨fun hsp=>?_,fun hsp=>?_⟩) <;>(try simp only [nm,List.length_map,hcl] at hsp) <;>try subst hsp)) | ((with_reducible refine z8 ?_);first | refine Or.inl ⟨by first | assumption | (simp only [nm,List.length_map,hcl];first | done | assumption | omega),?_⟩ | refine Or.inr (Or.inl ⟨by first | assumption | (simp only [nm,List.length_map,hcl];first | done | assumption | omega),?_⟩) | (refine Or.inr (Or.inr ⟨fun hsp=>?_,fun hsp=>?_⟩) <;>(try simp only [nm,List.length_map,hcl] at hsp) <;>try subst hsp)) | ((refine sP (by rfl) ?_);first | refine Or.inl ⟨by first | assumption | (simp only [nm,List.length_map,hcl];first | done | assumption | omega),?_⟩ | refine Or.inr (Or.inl ⟨by first | assumption | (simp only [nm,List.length_map,hcl];first | done | assumption | omega),?_⟩) | (refine Or.inr (Or.inr ⟨fun hsp=>?_,fun hsp=>?_⟩) <;>(try simp only [nm,List.length_map,hcl] at hsp) <;>try subst hsp)) | refine ⟨_,_,b2l C (cellAt h d).keys k (by omega),?_⟩ | refine sS (e7 (by rfl) (by rfl) (by omega) (y6 (d:=cl0) (by omega) (by omega))) ?_ | refine sS (e7 (rows:=List.map i4 (cellAt h d).B2) (by rfl) (by rfl) (by omega) (y6 (d:=V8) (by omega) (by omega))) ?_ | fail)
 all_goals (conv=>whnf)
 all_goals (first | (rw [hl.1 (by omega)];exact PV.le.refl _) | (rw [hl.2 (by omega) (by omega)];exact PV.le.refl _))
end Go.Ab.Td
namespace Go.Ab.Td
set_option maxRecDepth 100000
open Go Go.Ab
variable {P:Program}
set_option linter.unusedSimpArgs false
attribute [local irreducible] e9
end Go.Ab.Td
namespace Go.Ab.Td
set_option maxRecDepth 100000
open Go Go.Ab
variable {P:Program}
set_option linter.unusedSimpArgs false
attribute [local irreducible] e9
end Go.Ab.Td
namespace Go.Ab.Td
set_option maxRecDepth 100000
open Go Go.Ab
variable {P:Program}
set_option linter.unusedSimpArgs false
attribute [local irreducible] e9
end Go.Ab.Td
namespace Go.Ab.Td
set_option maxRecDepth 100000
open Go Go.Ab
variable {P:Program}
set_option linter.unusedSimpArgs false
attribute [local irreducible] e9
end Go.Ab.Td
namespace Go.Ab.Td
set_option maxRecDepth 100000
open Go Go.Ab
variable {P:Program}
set_option linter.unusedSimpArgs false
attribute [local irreducible] e9
end Go.Ab.Td
namespace Go.Ab.Td
set_option maxRecDepth 100000
open Go Go.Ab
variable {P:Program}
set_option linter.unusedSimpArgs false
attribute [local irreducible] e9
end Go.Ab.Td
namespace Go.Ab.Td
set_option maxRecDepth 100000
open Go Go.Ab
variable {P:Program}
set_option linter.unusedSimpArgs false
attribute [local irreducible] e9
end Go.Ab.Td
namespace Go.Ab.Td
set_option maxRecDepth 100000
open Go Go.Ab
variable {P:Program}
set_option linter.unusedSimpArgs false
attribute [local irreducible] e9
noncomputable def oct (h:List Cl) (o:Ob):Option (List UInt8):=if o.kind=5 then some o.name else if o.kind=6 then some (sub h o) else none
end Go.Ab.Td
namespace Go.Ab.Td
set_option maxRecDepth 100000
open Go Go.Ab
variable {P:Program}
set_option linter.unusedSimpArgs false
attribute [local irreducible] e9
end Go.Ab.Td
namespace Go.Ab.Td
set_option maxRecDepth 100000
open Go Go.Ab
variable {P:Program}
set_option linter.unusedSimpArgs false
attribute [local irreducible] e9
def c7H (l:List Ob) (i:Nat) (k:Ob):Prop:=k.kind≠0∧k.kind≠6∧k.key=k∧(i:Int)≤i3 k 0 l
def b7K (l:List Ob):Prop:=∀ (i:Nat) (k:Ob),l[i]?=some k→c7H l i k
end Go.Ab.Td
namespace Go.Ab.Td
set_option maxRecDepth 100000
open Go Go.Ab
variable {P:Program}
set_option linter.unusedSimpArgs false
attribute [local irreducible] e9
def S7 (h:List Cl) (c:Cl):Prop:=
 (c.kind=1∧(c.bytes.length≤1000∧c.items.length=0∧c.keys.length=0∧c.B2.length=0∧c.max=0∧c.at'=0))∨
 (c.kind=2∧(c.bytes=[]∧c.items.length≤1000∧(∀ o ∈ c.items,fits h o)∧c.keys.length=0∧c.B2.length=0∧c.max=0∧c.at'=0))∨
 (c.kind=3∧(c.bytes=[]∧c.items.length=0∧c.at'=0∧0≤c.max∧c.max≤200∧c.keys.length=c.B2.length∧(c.keys.length:Int)≤c.max∧(∀ o ∈ c.keys,fits h o)∧(∀ o ∈ c.B2,fits h o)∧b7K c.keys))∨
 (c.kind=4∧(c.bytes.length≤4000∧c.items.length=0∧c.keys.length=0∧c.B2.length=0∧0≤c.at'∧c.at'≤c.bytes.length∧(c.max=0∨c.max=1)))
end Go.Ab.Td
namespace Go.Ab.Td
set_option maxRecDepth 100000
open Go Go.Ab
variable {P:Program}
set_option linter.unusedSimpArgs false
attribute [local irreducible] e9
end Go.Ab.Td
