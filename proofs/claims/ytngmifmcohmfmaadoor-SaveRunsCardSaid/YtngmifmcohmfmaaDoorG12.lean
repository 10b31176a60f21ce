/- A part of the proof: the texts TdVd, TdKe, TdKg. Under: nothing. -/
import Derived.Test.YtngmifmcohmfmaaDoorG11
import Derived.Test.YtngmifmcohmfmaaDoorG08
import Derived.Test.YtngmifmcohmfmaaDoorG05
namespace Go.Ab.Td
set_option maxRecDepth 100000
set_option maxRecDepth 100000
open Go Go.Ab
theorem b4U (F:List PV→Prop) (Ok:Nat→List PV→Own→PV→Prop) (rows:List (List PV)) (K A B N:Int) (S:List UInt8) (hA:0≤A∧A<256) (hB:0≤B∧B<256) (hN: -2147483648≤N∧N≤2147483647)
 (hO:∀ K' A' B' N' S',0≤A'∧A'<256→0≤B'∧B'<256→ -2147483648≤N'∧N'≤2147483647→∃ r,(F r∧a3G r)∧Ok e6 [C6 K' A' B' N' S',.sl 7 rows] [] (.agg r))
 (h65:∀ n,Ok l8 [.int .i64 n] [] (b7q n)) (h66:∀ s,Ok w9 [.str s] [] (b6V s)):∃ r,b0Y F r∧fnW wG Ok noX noT noT 0 y3 [C6 K A B N S,.sl 7 rows] (.agg r):=by
 cases h0:(K.tmod 5==0) with
 | true=>exact c5J F Ok rows K A B N S hA hB hO h65 h66 h0
 | false=>
   cases h1:(K.tmod 5==1) with
   | true=>exact c6l F Ok rows K A B N S hA hB hO h65 h66 h0 h1
   | false=>
     cases h2:(K.tmod 5==2) with
     | true=>exact c6b F Ok rows K A B N S hA hO h0 h1 h2
     | false=>
       cases h3:(K.tmod 5==3) with
       | true=>exact c6G F Ok rows K A B N S hA hB hN hO h65 h66 h0 h1 h2 h3
       | false=>exact c6s F Ok rows K A B N S hA hB hO h65 h66 h0 h1 h2 h3
def a4P (r:List PV):Prop:=∃ K A B N S,r=[.int .u8 K,.int .u8 A,.int .u8 B,.int .i32 N,.str S]∧(0≤A∧A<256)∧(0≤B∧B<256)∧(-2147483648≤N∧N≤2147483647)
theorem a4P.r {r:List PV} (h:a4P r):c7T r:=by
 obtain ⟨K,A,B,N,S,e,a,b,_⟩:=h
 exact ⟨K,A,B,N,S,e,a,b⟩
attribute [local irreducible] f0
set_option maxHeartbeats 4000000 in
theorem c0U (Inv:List (List PV)→Prop) (h0:Inv Y8) (Ok:Nat→List PV→Own→PV→Prop) (cells ops e9:List (List PV)) (hc:∀ r ∈ cells,a4P r)
 (h53:Ok u1 [.sl 1 [[.str b4a],[.str b4i]]] [(0,0)] (.sl 7 Y8))
 (h54:∀ K A B N S H,0≤A∧A<256→0≤B∧B<256→ -2147483648≤N∧N≤2147483647→a5m H→H.length<20→Inv H→∃ r,(a3q r∧Inv (H++[r]))∧Ok n7 [C6 K A B N S,.sl 7 H] [] (.agg r)):
 ∃ H,Inv H∧fnW wG Ok noX noT noT 0 a0f [.agg [.sl 5 cells,.sl 5 ops,.sl 1 e9]] (.sl 7 H):=by
 let n:=min cells.length 10
 have hnx:∀ p:Nat × List (List PV),∃ r:List PV,∀ row,cells[p.1]?=some row→(a5m p.2∧p.2.length<20∧Inv p.2)→(a3q r∧Inv (p.2++[r]))∧Ok n7 [.agg row,.sl 7 p.2] [] (.agg r):=by
  intro p
  by_cases hh:a5m p.2∧p.2.length<20∧Inv p.2
  ·cases hr:cells[p.1]? with
   | none=>exact ⟨[],fun _ h=>by cases h⟩
   | some row=>
     obtain ⟨K,A,B,N,S,rfl,hA,hB,hN⟩:=hc row (List.mem_of_getElem? hr)
     obtain ⟨r,h1,h2⟩:=h54 K A B N S p.2 hA hB hN hh.1 hh.2.1 hh.2.2
     exact ⟨r,fun _ e _=>by cases e;exact ⟨h1,h2⟩⟩
  ·exact ⟨[],fun _ _ h=>absurd h hh⟩
 obtain ⟨nxt,hnxt⟩:=Classical.axiomOfChoice hnx
 let hs:Nat→List (List PV):=fun i=>Nat.rec Y8 (fun i h=>h++[nxt (i,h)]) i
 have hsS:∀ i,hs (i+1)=hs i++[nxt (i,hs i)]:=fun i=>rfl
 have hok:∀ i,i≤n→(a5m (hs i)∧Inv (hs i))∧(hs i).length=10+i:=by
  intro i
  induction i with
  | zero=>intro _;exact ⟨⟨⟨[],rfl,by simp,b2z⟩,h0⟩,rfl⟩
  | succ i ih=>
    intro hi
    obtain ⟨⟨⟨more,e,hm,hall⟩,hI⟩,hl⟩:=ih (by omega)
    obtain ⟨row,hrow⟩:∃ row,cells[i]?=some row:=⟨_,List.getElem?_eq_getElem (by simp only [n] at hi;omega)⟩
    have hlt20:(hs i).length<20:=by simp only [n] at hi;omega
    obtain ⟨h1,h1I⟩:=(hnxt (i,hs i) row hrow ⟨⟨more,e,hm,hall⟩,hlt20,hI⟩).1
    rw [hsS]
    refine ⟨⟨⟨more++[nxt (i,hs i)],by rw [← List.append_assoc,← e],?_,?_⟩,h1I⟩,by simp;omega⟩
    ·have:(hs i).length=10+more.length:=by rw [e,List.length_append];rfl
     simp only [n] at hi
     simp;omega
    ·intro r hr
     rcases List.mem_append.1 hr with h | h
     ·exact hall r h
     ·simp only [List.mem_singleton] at h;subst h;exact h1
 refine ⟨hs n,(hok n (Nat.le_refl _)).1.2,?_⟩
 conv=>whnf
 refine ⟨_,_,h53,?_⟩
 conv=>whnf
 intro X hX _
 have key:∀ (m i:Nat) (s:St) (sl:Bool),i+m=n→norm [1,3,4] s=hSt cells ops e9 (i:Int) (10+i) (hs i) sl→X s:=by
  intro m
  induction m with
  | zero=>
    intro i s sl hi hs'
    refine y7 hX s ?_
    rw [hs']
    obtain rfl:i=n:=by omega
    have hl:=(hok n (Nat.le_refl _)).2
    generalize hs n=H at hl ⊢
    cases hlt:decide ((n:Int)<(cells.length:Int)) with
    | true=>
      have h10:decide ((n:Int)<10)=false:=by simp only [n,decide_eq_true_eq,decide_eq_false_iff_not] at hlt ⊢;omega
      conv=>whnf
      rw [hlt]
      conv=>whnf
      refine F5 h10 ?_
      conv=>whnf
      rw [List.drop_zero,← hl,List.take_length]
    | false=>
      conv=>whnf
      rw [hlt]
      conv=>whnf
      rw [List.drop_zero,← hl,List.take_length]
  | succ m ih=>
    intro i s sl hi hs'
    refine y7 hX s ?_
    rw [hs']
    have hin:i<cells.length∧i<10:=by simp only [n] at hi;omega
    have hlt:decide ((i:Int)<(cells.length:Int))=true:=by simp;omega
    have h10:decide ((i:Int)<10)=true:=by simp;omega
    obtain ⟨row,hrow⟩:∃ row,cells[i]?=some row:=⟨_,List.getElem?_eq_getElem (by omega)⟩
    have hw:IntKind.i64.wrap ((i:Int)+1)=((i+1:Nat):Int):=by rw [wrap_small (by omega) (by omega)];omega
    obtain ⟨hH,hl⟩:=hok i (by omega)
    have hlt20:(hs i).length<20:=by rw [hl];omega
    obtain ⟨⟨h1,_⟩,h2⟩:=hnxt (i,hs i) row hrow ⟨hH.1,hlt20,hH.2⟩
    have hgo:∀ s',norm [1,3,4] s'=hSt cells ops e9 (IntKind.i64.wrap ((i:Int)+1)) (10+i+1) (hs i++[nxt (i,hs i)]) true→X s':=fun s' h=>ih (i+1) s' true (by omega) (by rw [h,hw,hsS];rfl)
    obtain ⟨K,A,B,N,S,rfl,hA,hB,hN⟩:=hc row (List.mem_of_getElem? hrow)
    clear hs' ih hok
    simp only [] at h2
    generalize nxt (i,hs i)=r at h1 h2 hgo
    generalize hs i=H at h1 h2 hgo hl ⊢
    have hpub:H=(H.drop 0).take (10+i):=by rw [List.drop_zero,← hl,List.take_length]
    have h2':Ok n7 [C6 K A B N S,.sl 7 ((H.drop 0).take (10+i))] [] (.agg r):=by rw [← hpub];exact h2
    obtain ⟨q1,q2,q3,q4,q5,q6,q7,m1,m2,m3,rfl,_,c3,c4,c5⟩:=h1
    have hrow':cells[(i:Int).toNat]?=some [.int .u8 K,.int .u8 A,.int .u8 B,.int .i32 N,.str S]:=by simpa using hrow
    rcases c3 with ⟨rfl,_⟩ | ⟨r3,rfl,_⟩ <;>rcases c4 with ⟨rfl,_⟩ | ⟨r4,rfl,_⟩ <;>rcases c5 with ⟨rfl,_⟩ | ⟨r5,rfl,_⟩
    all_goals
     conv=>whnf
     rw [hlt]
     conv=>whnf
     refine y1 h10 ?_
     conv=>whnf
     refine j4 (e7 (rows:=cells) (j:=(i:Int)) (by rfl) (by rfl) (by omega) hrow') ?_
     conv=>whnf
     refine ⟨_,_,h2',?_⟩
     conv=>whnf
     refine j4 (O0 (L:=H) (c:=10+i) (sl:=true) (xs:=[[.int .i64 q1,.str q2,_,_,_,.int .i64 q6,.int .i64 q7]]) (by rfl) hl (by rfl) (by rfl) (by simp;omega)) ?_
     conv=>whnf
     exact hgo _ rfl
 exact key n 0 _ false (by omega) rfl
end Go.Ab.Td
namespace Go.Ab.Td
set_option maxRecDepth 100000
set_option maxRecDepth 100000
open Go Go.Ab
variable {P:Program}
set_option linter.unusedSimpArgs false
attribute [local irreducible] f0
theorem a6d (k:Ob):∀ (l:List Ob) (i:Nat),(0≤i9 k i l)↔k ∈ l
 | [],i=>by simp [i9]
 | x::l,i=>by
   unfold i9
   split
   ·rename_i h;simp [h]
   ·rename_i h
    rw [a6d k l (i+1)]
    simp only [List.mem_cons]
    constructor
    ·exact .inr
    ·rintro (e | e)
     ·exact absurd e.symm h
     ·exact e
theorem b7B (C:Laid P):O4 P x5 C4=true:=by
 unfold O4
 rw [a1s C]
 kernel_rfl
def z8 (g:Nat):Option n4:=match Nat.beq g x5 with | true=>some C4 | false=>none
theorem c6u (C:Laid P) {g:Nat} {c:n4} {ps:List PV} {r:PV} (hk:b9 P g c=true) (hl:ps.length=c.nparams) (h:fnV G (j7 P G) noX noT z8 1 c ps r):j7 P G g ps [] r:=
 b0w C.mixed hk (fun _ _ h=>by cases h) (fun _ _ h=>by cases h) (fun g c h=>by
  unfold z8 at h
  split at h
  ·rename_i hb
   have:=Nat.eq_of_beq_eq_true hb
   subst this
   cases h
   exact b7B C
  ·cases h) hl h
def b5O (l:List Ob):Prop:=∀ (i:Nat) (k:Ob),l[i]?=some k→b5G k=(k,0)∧¬ k ∈ l.take i
def a3H (c:Cl):List (List Ob):=[c.items,c.keys,c.w7]
def a5P (h:List Cl) (c:Cl):Prop:=(∀ l ∈ a3H c,∀ o ∈ l,fits h o)∧b5O c.keys
set_option maxHeartbeats 1000000 in
theorem a5U (C:Laid P) (l:List Ob) (k:Ob) (hl:l.length<2 ^ 62):j7 P G C0 [.sl 7 (List.map i6 l),aO k] [] (.bool (tt (k ∈ l))):=by
 refine i5 C (a1l C) rfl ?_
 repeat' ((conv=>whnf);first | (with_reducible refine sC (by kernel_rfl) ?_) | ((first | (with_reducible first | refine sB ?_ | refine o8 ?_ | refine o7 ?_) | refine sP (by rfl) ?_);first | refine oT ?_ | refine oF ?_ | (refine Or.inr (Or.inr ⟨fun hsp=>?_,fun hsp=>?_⟩) <;>(try simp only [nm] at hsp) <;>try subst hsp)) | refine ⟨_,_,a7G C l k hl,?_⟩ | fail)
 all_goals (conv=>whnf)
 all_goals (first | (with_reducible refine z6 ?_) | (with_reducible refine x6 ?_) | (refine z9 ?_;try simp (disch:=omega) only [nm,wrap_small])) <;>(exact a6d k l 0)
set_option maxHeartbeats 1000000 in
theorem b1K (C:Laid P) (c:Cl):j7 P G N2 [aC c] [] (.func (.func x5) [] [.ref (j9 c)]):=by
 refine i5 C (a6T C) rfl ?_
 repeat' ((conv=>whnf);first | (with_reducible refine sC (by kernel_rfl) ?_) | ((first | (with_reducible first | refine sB ?_ | refine o8 ?_ | refine o7 ?_) | refine sP (by rfl) ?_);first | refine oT ?_ | refine oF ?_ | (refine Or.inr (Or.inr ⟨fun hsp=>?_,fun hsp=>?_⟩) <;>(try simp only [nm] at hsp) <;>try subst hsp)) | fail)
 all_goals (conv=>whnf)
 all_goals (exact PV.le.refl _)
set_option maxHeartbeats 4000000 in
theorem a7E (C:Laid P) (h:List Cl) (c:Cl) (hs:c.small) (hn:∀ l ∈ a3H c,∀ o ∈ l,o.n<9223372036854775808):j7 P G G7 [.agg [.sl 7 (List.map j9 h)],aC c] [] (.bool (tt (a5P h c))):=by
 refine c6u C (a3F C) rfl ?_
 repeat' ((conv=>whnf);first | (with_reducible refine sC (by kernel_rfl) ?_) | ((first | (with_reducible first | refine sB ?_ | refine o8 ?_ | refine o7 ?_) | refine sP (by rfl) ?_);first | refine oT ?_ | refine oF ?_ | (refine Or.inr (Or.inr ⟨fun hsp=>?_,fun hsp=>?_⟩) <;>(try simp only [nm,List.length_map] at hsp) <;>try subst hsp)) | refine ⟨_,_,b1K C c,?_⟩ | fail)
 all_goals (conv=>whnf)
 intro X hX hW
 obtain ⟨ls,hls⟩:∃ ls,ls=a3H c:=⟨_,rfl⟩
 have hll:ls.length=3:=by rw [hls];rfl
 refine c2h hX hW (fun st (a:Nat)=>st.upd [(14,.pv (pI (a:Int)))] []) (fun a k=>a+k=ls.length∧∀ j,j<a→∀ l,ls[j]?=some l→∀ o ∈ l,fits h o) 0 ls.length (by (conv=>whnf);first | done | rfl) ⟨by simp,by intro j hj;omega⟩ ?_
 intro m a ih hI
 rcases a0E ls a with ⟨L,hlt,hx⟩ | hge
 ·have hmem:L ∈ a3H c:=by rw [← hls];exact List.mem_of_getElem? hx
  have hxx:[slO c.items,slO c.keys,slO c.w7][a]?=some (slO L):=by rw [show [slO c.items,slO c.keys,slO c.w7]=ls.map (fun l=>slO l) by rw [hls];rfl,List.getElem?_map,hx];rfl
  have hLl:L.length≤1000000:=by
   simp only [a3H,List.mem_cons,List.not_mem_nil,or_false] at hmem
   obtain ⟨s1,s2,s3,s4⟩:=hs
   rcases hmem with rfl | rfl | rfl <;>omega
  have hLn:=hn L hmem
  repeat' ((conv=>whnf);first | (with_reducible refine sC (by kernel_rfl) ?_) | ((first | (with_reducible first | refine sB ?_ | refine o8 ?_ | refine o7 ?_) | refine sP (by rfl) ?_);first | refine oT ?_ | refine oF ?_ | (refine Or.inr (Or.inr ⟨fun hsp=>?_,fun hsp=>?_⟩) <;>(try simp only [nm,List.length_map] at hsp) <;>try subst hsp)) | refine sS (b5Q (a:=slO c.items) (b:=slO c.keys) (c:=slO c.w7) (y:=slO L) hxx (by rfl) (by rfl) (by rfl)) ?_ | fail)
  all_goals (conv=>whnf)
  intro Y hY hWY
  refine c2h hY hWY (fun st (i:Nat)=>st.upd [(19,.pv (pI (i:Int)))] []) (fun i k=>i+k=L.length∧∀ j,j<i→∀ o,L[j]?=some o→fits h o) 0 L.length (by (conv=>whnf);first | done | rfl) ⟨by simp,by intro j hj;omega⟩ ?_
  intro m2 i jh hJ
  rcases a0E L i with ⟨x,hlt2,hy⟩ | hge2
  ·have hrow:=y2 (f:=i6) hy
   have hn1:=hLn x (List.mem_of_getElem? hy)
   have kF:=b5W C h x hn1
   by_cases hf:fits h x
   ·rw [show tt (fits h x)=true from S7.mpr hf] at kF
    repeat' ((conv=>whnf);first | (with_reducible refine sC (by kernel_rfl) ?_) | ((first | (with_reducible first | refine sB ?_ | refine o8 ?_ | refine o7 ?_) | refine sP (by rfl) ?_);first | refine oT ?_ | refine oF ?_ | (refine Or.inr (Or.inr ⟨fun hsp=>?_,fun hsp=>?_⟩) <;>(try simp only [nm,List.length_map] at hsp) <;>try subst hsp)) | refine ⟨_,_,kF,?_⟩ | refine sS (e7 (by rfl) (by rfl) (by omega) hrow) ?_ | fail)
    all_goals (conv=>whnf)
    all_goals (refine jh (m2 - 1) (i+1) _ (by omega) ⟨by (try dsimp only);omega,?_⟩ (by (conv=>whnf);first | done | rfl | (simp (disch:=omega) only [p9])))
    all_goals (intro j hj o ho;by_cases e:j<i;(·exact hJ.2 j e o ho);have e2:j=i:=(by omega);subst e2;rw [hy] at ho;cases ho;exact hf)
   ·rw [show tt (fits h x)=false from G6.mpr hf] at kF
    repeat' ((conv=>whnf);first | (with_reducible refine sC (by kernel_rfl) ?_) | ((first | (with_reducible first | refine sB ?_ | refine o8 ?_ | refine o7 ?_) | refine sP (by rfl) ?_);first | refine oT ?_ | refine oF ?_ | (refine Or.inr (Or.inr ⟨fun hsp=>?_,fun hsp=>?_⟩) <;>(try simp only [nm,List.length_map] at hsp) <;>try subst hsp)) | refine ⟨_,_,kF,?_⟩ | refine sS (e7 (by rfl) (by rfl) (by omega) hrow) ?_ | fail)
    all_goals (conv=>whnf)
    all_goals exact x6 (fun hp=>hf (hp.1 L hmem x (List.mem_of_getElem? hy)))
  ·repeat' ((conv=>whnf);first | (with_reducible refine sC (by kernel_rfl) ?_) | ((first | (with_reducible first | refine sB ?_ | refine o8 ?_ | refine o7 ?_) | refine sP (by rfl) ?_);first | refine oT ?_ | refine oF ?_ | (refine Or.inr (Or.inr ⟨fun hsp=>?_,fun hsp=>?_⟩) <;>(try simp only [nm,List.length_map] at hsp) <;>try subst hsp)) | fail)
   all_goals (conv=>whnf)
   all_goals (refine ih (m - 1) (a+1) _ (by omega) ⟨by (try dsimp only);omega,?_⟩ (by (conv=>whnf);first | done | rfl | (simp (disch:=omega) only [p9])))
   all_goals (intro j hj l hl o ho;by_cases e:j<a;(·exact hI.2 j e l hl o ho);have e2:j=a:=(by omega);subst e2;rw [hx] at hl;cases hl;obtain ⟨q,hq⟩:=List.getElem?_of_mem ho;exact hJ.2 q (by have:=(List.getElem?_eq_some_iff.1 hq).1;omega) o hq)
 ·have hall:∀ l ∈ a3H c,∀ o ∈ l,fits h o:=by
   intro l hl o ho
   rw [← hls] at hl
   obtain ⟨q,hq⟩:=List.getElem?_of_mem hl
   exact hI.2 q (by have:=(List.getElem?_eq_some_iff.1 hq).1;omega) l hq o ho
  have hkn:∀ o ∈ c.keys,o.n<9223372036854775808:=hn c.keys (by simp [a3H])
  obtain ⟨s1,s2,s3,s4⟩:=hs
  repeat' ((conv=>whnf);first | (with_reducible refine sC (by kernel_rfl) ?_) | ((first | (with_reducible first | refine sB ?_ | refine o8 ?_ | refine o7 ?_) | refine sP (by rfl) ?_);first | refine oT ?_ | refine oF ?_ | (refine Or.inr (Or.inr ⟨fun hsp=>?_,fun hsp=>?_⟩) <;>(try simp only [nm,List.length_map] at hsp) <;>try subst hsp)) | fail)
  all_goals (conv=>whnf)
  intro Z hZ hWZ
  refine a2x hZ (fun st (i:Nat)=>st.upd [(21,.pv (pI (i:Int)))] []) (fun i k=>i+k=c.keys.length∧∀ j,j<i→∀ o,c.keys[j]?=some o→b5G o=(o,0)∧¬ o ∈ c.keys.take j) 0 c.keys.length (by (conv=>whnf);first | done | rfl) ⟨by simp,by intro j hj;omega⟩ ?_
  intro m2 i jh hJ
  rcases a0E c.keys i with ⟨x,hlt2,hy⟩ | hge2
  ·have hrow:=y2 (f:=i6) hy
   have kK:=b3R C x (hkn x (List.mem_of_getElem? hy))
   have kC:=a5U C (c.keys.take i) x (by rw [List.length_take];omega)
   by_cases hk:b5G x=(x,0)
   ·rw [hk] at kK
    by_cases hm:x ∈ c.keys.take i
    ·rw [show tt (x ∈ c.keys.take i)=true from S7.mpr hm] at kC
     repeat' ((conv=>whnf);first | (with_reducible refine sC (by kernel_rfl) ?_) | ((first | (with_reducible first | refine sB ?_ | refine o8 ?_ | refine o7 ?_) | refine sP (by rfl) ?_);first | refine oT ?_ | refine oF ?_ | (refine Or.inr (Or.inr ⟨fun hsp=>?_,fun hsp=>?_⟩) <;>(try simp only [nm,List.length_map] at hsp) <;>try subst hsp)) | refine ⟨_,_,kK,?_⟩ | refine ⟨_,_,kC,?_⟩ | refine sS (e7 (by rfl) (by rfl) (by omega) hrow) ?_ | refine sS (Z0 (f:=i6) (l:=c.keys) (a:=0) (h:=(i:Int)) (by rfl) (by rfl) (by rfl) (by omega) (by omega) (by omega)) ?_ | fail)
     all_goals (conv=>whnf)
     all_goals exact x6 (fun hp=>(hp.2 i x hy).2 hm)
    ·rw [show tt (x ∈ c.keys.take i)=false from G6.mpr hm] at kC
     repeat' ((conv=>whnf);first | (with_reducible refine sC (by kernel_rfl) ?_) | ((first | (with_reducible first | refine sB ?_ | refine o8 ?_ | refine o7 ?_) | refine sP (by rfl) ?_);first | refine oT ?_ | refine oF ?_ | (refine Or.inr (Or.inr ⟨fun hsp=>?_,fun hsp=>?_⟩) <;>(try simp only [nm,List.length_map] at hsp) <;>try subst hsp)) | refine ⟨_,_,kK,?_⟩ | refine ⟨_,_,kC,?_⟩ | refine sS (e7 (by rfl) (by rfl) (by omega) hrow) ?_ | refine sS (Z0 (f:=i6) (l:=c.keys) (a:=0) (h:=(i:Int)) (by rfl) (by rfl) (by rfl) (by omega) (by omega) (by omega)) ?_ | fail)
     all_goals (conv=>whnf)
     all_goals (refine jh (m2 - 1) (i+1) _ (by omega) ⟨by (try dsimp only);omega,?_⟩ (by (conv=>whnf);first | done | rfl | (simp (disch:=omega) only [p9])))
     all_goals (intro j hj o ho;by_cases e:j<i;(·exact hJ.2 j e o ho);have e2:j=i:=(by omega);subst e2;rw [hy] at ho;cases ho;exact ⟨hk,hm⟩)
   ·repeat' ((conv=>whnf);first | (with_reducible refine sC (by kernel_rfl) ?_) | ((first | (with_reducible first | refine sB ?_ | refine o8 ?_ | refine o7 ?_) | refine sP (by rfl) ?_);first | refine oT ?_ | refine oF ?_ | (refine Or.inr (Or.inr ⟨fun hsp=>?_,fun hsp=>?_⟩) <;>(try simp only [nm,List.length_map] at hsp) <;>try subst hsp)) | refine ⟨_,_,kK,?_⟩ | refine ⟨_,_,kC,?_⟩ | refine sS (e7 (by rfl) (by rfl) (by omega) hrow) ?_ | refine sS (Z0 (f:=i6) (l:=c.keys) (a:=0) (h:=(i:Int)) (by rfl) (by rfl) (by rfl) (by omega) (by omega) (by omega)) ?_ | fail)
    all_goals (conv=>whnf)
    all_goals first
     | exact x6 (fun hp=>hk (hp.2 i x hy).1)
     | (exfalso;exact hk (Prod.ext (by assumption) (by assumption)))
     | (exfalso;apply hk;grind)
  ·repeat' ((conv=>whnf);first | (with_reducible refine sC (by kernel_rfl) ?_) | ((first | (with_reducible first | refine sB ?_ | refine o8 ?_ | refine o7 ?_) | refine sP (by rfl) ?_);first | refine oT ?_ | refine oF ?_ | (refine Or.inr (Or.inr ⟨fun hsp=>?_,fun hsp=>?_⟩) <;>(try simp only [nm,List.length_map] at hsp) <;>try subst hsp)) | fail)
   all_goals (conv=>whnf)
   all_goals exact z6 ⟨hall,fun q k hq=>hJ.2 q (by have:=(List.getElem?_eq_some_iff.1 hq).1;omega) k hq⟩
end Go.Ab.Td
namespace Go.Ab.Td
set_option maxRecDepth 100000
set_option maxRecDepth 100000
open Go Go.Ab
variable {P:Program}
set_option linter.unusedSimpArgs false
attribute [local irreducible] f0
open Classical in
def a0B (c:Cl):Prop:=
 (c.kind=1∧(c.items.length+c.keys.length+c.w7.length=0∧c.max=0∧c.at'=0))∨(c.kind=2∧(c.bytes=[]∧c.keys.length+c.w7.length=0∧c.max=0∧c.at'=0))∨
 (c.kind=3∧(c.bytes=[]∧c.items.length=0∧c.at'=0))∨(c.kind=4∧c.items.length+c.keys.length+c.w7.length=0)
def b4o (c:Cl):Prop:=
 if c.kind=1 then c.bytes.length≤1000 else if c.kind=2 then c.items.length≤1000
 else if c.kind=3 then 0≤c.max∧c.max≤200∧c.keys.length=c.w7.length∧(c.keys.length:Int)≤c.max
 else c.bytes.length≤4000∧0≤c.at'∧c.at'≤c.bytes.length∧(c.max=0∨c.max=1)
open Classical in
noncomputable def b3Z (h:List Cl):Int:=if o0 0 h>20000 then 210 else if ∀ c ∈ h,a0B c∧b4o c∧a5P h c then 0 else 210
set_option maxHeartbeats 1000000 in
theorem a8M (C:Laid P) (h:List Cl) (c:Cl) (hs:c.small):j7 P G K0 [.agg [.sl 7 (List.map j9 h)],aC c] [] (.bool (tt (a0B c))):=by
 refine i5 C (a4j C) rfl ?_
 obtain ⟨s1,s2,s3,s4⟩:=hs
 have w1:IntKind.i64.wrap ((c.keys.length:Int)+c.w7.length)=(c.keys.length:Int)+c.w7.length:=wrap_small (by omega) (by omega)
 have w2:IntKind.i64.wrap ((c.items.length:Int)+((c.keys.length:Int)+c.w7.length))=(c.items.length:Int)+((c.keys.length:Int)+c.w7.length):=wrap_small (by omega) (by omega)
 have w3:IntKind.i64.wrap (c.items.length:Int)=(c.items.length:Int):=wrap_small (by omega) (by omega)
 have q:(c.kind=1∧a0B c=(c.items.length+c.keys.length+c.w7.length=0∧c.max=0∧c.at'=0))∨(c.kind=2∧a0B c=(c.bytes=[]∧c.keys.length+c.w7.length=0∧c.max=0∧c.at'=0))∨(c.kind=3∧a0B c=(c.bytes=[]∧c.items.length=0∧c.at'=0))∨(c.kind=4∧a0B c=(c.items.length+c.keys.length+c.w7.length=0))∨((c.kind≠1∧c.kind≠2∧c.kind≠3∧c.kind≠4)∧a0B c=False):=by
  by_cases h1:c.kind=1
  ·exact .inl ⟨h1,by simp [a0B,h1]⟩
  by_cases h2:c.kind=2
  ·exact .inr (.inl ⟨h2,by simp [a0B,h2]⟩)
  by_cases h3:c.kind=3
  ·exact .inr (.inr (.inl ⟨h3,by simp [a0B,h3]⟩))
  by_cases h4:c.kind=4
  ·exact .inr (.inr (.inr (.inl ⟨h4,by simp [a0B,h4]⟩)))
  ·exact .inr (.inr (.inr (.inr ⟨⟨h1,h2,h3,h4⟩,by simp [a0B,h1,h2,h3,h4]⟩)))
 rcases q with ⟨hk,e⟩ | ⟨hk,e⟩ | ⟨hk,e⟩ | ⟨hk,e⟩ | ⟨hk,e⟩
 all_goals rw [e]
 repeat' ((conv=>whnf);first | (with_reducible refine sC (by kernel_rfl) ?_) | ((first | (with_reducible first | refine sB ?_ | refine o8 ?_ | refine o7 ?_) | refine sP (by rfl) ?_);first | refine Or.inl ⟨by first | assumption | (simp only [nm,List.length_map,w1,w2];first | done | assumption | omega),?_⟩ | refine Or.inr (Or.inl ⟨by first | assumption | (simp only [nm,List.length_map,w1,w2];first | done | assumption | omega),?_⟩) | (refine Or.inr (Or.inr ⟨fun hsp=>?_,fun hsp=>?_⟩) <;>(try simp only [nm,List.length_map,w1,w2] at hsp) <;>try subst hsp)) | fail)
 all_goals (conv=>whnf)
 all_goals (first | (with_reducible refine z6 ?_) | (with_reducible refine x6 ?_) | (refine z9 ?_;try simp (disch:=omega) only [nm,wrap_small,List.length_map,w1,w2,w3])) <;>(first | omega | (refine ⟨?_,?_,?_⟩ <;>first | assumption | omega) | (refine ⟨?_,?_,?_,?_⟩ <;>first | assumption | omega) | (rintro ⟨h1,h2,h3⟩;first | contradiction | omega) | (rintro ⟨h1,h2,h3,h4⟩;first | contradiction | omega) | (constructor <;>intro hq <;>first | omega | (refine ⟨?_,?_,?_⟩ <;>first | assumption | omega) | (refine ⟨?_,?_,?_,?_⟩ <;>first | assumption | omega)) | grind)
set_option maxHeartbeats 1000000 in
theorem a6C (C:Laid P) (h:List Cl) (c:Cl):j7 P G D2 [.agg [.sl 7 (List.map j9 h)],aC c] [] (.bool (tt (b4o c))):=by
 refine i5 C (a2g C) rfl ?_
 repeat' ((conv=>whnf);first | (with_reducible refine sC (by kernel_rfl) ?_) | ((first | (with_reducible first | refine sB ?_ | refine o8 ?_ | refine o7 ?_) | refine sP (by rfl) ?_);first | refine oT ?_ | refine oF ?_ | (refine Or.inr (Or.inr ⟨fun hsp=>?_,fun hsp=>?_⟩) <;>(try simp only [nm,List.length_map] at hsp) <;>try subst hsp)) | fail)
 all_goals (conv=>whnf)
 all_goals (first | (with_reducible refine z6 ?_) | (with_reducible refine x6 ?_) | (refine z9 ?_;try simp (disch:=omega) only [nm,wrap_small,List.length_map])) <;>(grind [b4o])
set_option maxHeartbeats 1000000 in
theorem a1S (C:Laid P) (h:List Cl) (hl:h.length<2 ^ 62):j7 P G F6 [.sl 7 (List.map j9 h)] [] (pI (o0 0 h)):=by
 refine i5 C (a6i C) rfl ?_
 repeat' ((conv=>whnf);first | (with_reducible refine sC (by kernel_rfl) ?_) | ((first | (with_reducible first | refine sB ?_ | refine o8 ?_ | refine o7 ?_) | refine sP (by rfl) ?_);first | refine oT ?_ | refine oF ?_ | (refine Or.inr (Or.inr ⟨fun hsp=>?_,fun hsp=>?_⟩) <;>(try simp only [nm] at hsp) <;>try subst hsp)) | fail)
 all_goals (conv=>whnf)
 intro X hX hW
 refine a2x hX (fun st (a:Nat × Int)=>st.upd [(3,.pv (pI a.2)),(8,.pv (pI (a.1:Int)))] []) (fun a m=>a.1+m=h.length∧(o0 0 h=o0 a.2 (h.drop a.1))) (0,0) h.length (by (conv=>whnf);first | done | rfl) (by simp) ?_
 intro m a ih hI
 rcases a0E h a.1 with ⟨x,hlt,hx⟩ | hge
 ·have hrow:=y2 (f:=j9) hx
  have hd:=Z7 hx
  have hI2:=hI.2
  rw [hd] at hI2
  simp only [o0] at hI2
  repeat' ((conv=>whnf);first | (with_reducible refine sC (by kernel_rfl) ?_) | ((first | (with_reducible first | refine sB ?_ | refine o8 ?_ | refine o7 ?_) | refine sP (by rfl) ?_);first | refine oT ?_ | refine oF ?_ | (refine Or.inr (Or.inr ⟨fun hsp=>?_,fun hsp=>?_⟩) <;>(try simp only [nm,List.length_map] at hsp) <;>try subst hsp)) | refine ⟨_,_,a6J C x.kind x.bytes x.items x.keys x.w7 x.max x.at',?_⟩ | refine sS (e7 (by rfl) (by rfl) (by omega) hrow) ?_ | fail)
  all_goals (conv=>whnf)
  all_goals first
   | (refine ih (m - 1) (a.1+1,(IntKind.i64.wrap (a.2+x.size))) _ (by omega) ⟨by (try dsimp only);omega,?_⟩ (by (conv=>whnf);first | done | rfl | (simp (disch:=omega) only [p9])))
   | (with_reducible first | refine k7 ?_ | refine z6 ?_ | refine x6 ?_)
   | (refine z9 ?_;simp only [nm])
   | refine le_of_eq ?_
  all_goals grind
 ·have hd:h.drop a.1=[]:=List.drop_eq_nil_of_le hge
  have hI2:=hI.2
  rw [hd] at hI2
  simp only [o0] at hI2
  repeat' ((conv=>whnf);first | (with_reducible refine sC (by kernel_rfl) ?_) | ((first | (with_reducible first | refine sB ?_ | refine o8 ?_ | refine o7 ?_) | refine sP (by rfl) ?_);first | refine oT ?_ | refine oF ?_ | (refine Or.inr (Or.inr ⟨fun hsp=>?_,fun hsp=>?_⟩) <;>(try simp only [nm,List.length_map] at hsp) <;>try subst hsp)) | refine ⟨_,_,a6J C x.kind x.bytes x.items x.keys x.w7 x.max x.at',?_⟩ | fail)
  all_goals (conv=>whnf)
  all_goals first
   | (with_reducible first | refine k7 ?_ | refine z6 ?_ | refine x6 ?_)
   | (refine z9 ?_;simp only [nm])
   | refine le_of_eq ?_
  all_goals grind
end Go.Ab.Td
