/- A part of the proof: the texts TdWd1. Under: nothing. -/
import Derived.Test.YtomfaadmmchdcaaGreatDoorG27
import Derived.Test.YtomfaadmmchdcaaGreatDoorG26
set_option linter.unusedVariables false
namespace Go.Ab.Td
set_option maxRecDepth 100000
set_option maxRecDepth 100000
open Go Go.Ab
variable {P:Program}
set_option linter.unusedSimpArgs false
attribute [local irreducible] e9
def c4a (D H:List (List PV)):Prop:=c4b D H∧(∃ r,D=Q2 0::Q2 1::r)∧∀ r ∈ D,∃ (j:Nat) (row:List PV),r=Q2 (j:Int)∧H[j]?=some row∧kindOf row=3
set_option maxHeartbeats 4000000 in
theorem b7f (F:List (List PV)→List PV→Prop) (Inv:List (List PV)→Prop) (Ok:Nat→List PV→Own→PV→Prop) (cells ops d5:List (List PV)) (ho:∀ r ∈ ops,a1W r) (hd:∀ r ∈ d5,∃ D,r=[.int .u8 D]∧0≤D∧D<256)
 (h27:∃ H,(a4J H∧Inv H)∧Ok F1 [.agg [.sl 5 cells,.sl 5 ops,.sl 1 d5]] [] (.sl 7 H))
 (h8:∀ K A B N S H,0≤A∧A<256→0≤B∧B<256→ -2147483648≤N∧N≤2147483647→a4J H→Inv H→∃ r,(a3A r∧F H r)∧Ok j1 [a1m K A B N S,.sl 7 H] [] (.agg r))
 (h28:∀ H n,a4J H→0≤n→Ok H7 [.sl 7 H,.int .i64 3,.int .i64 n] [] (.int .i64 (k9 H 3 n))):
 ∃ H O D,(a4J H∧Inv H)∧(∃ m,m≤20∧SlR O m∧SlF (F H) O m)∧c4a D H∧fnW wG Ok noX noT noT 0 W4 [.agg [.sl 5 cells,.sl 5 ops,.sl 1 d5]] (stV O (.sl 7 D) (.sl 7 H) (.int .i64 1)):=by
 obtain ⟨H,⟨hH,hI⟩,h27⟩:=h27
 let n:=min ops.length 20
 let n2:=min d5.length 4
 obtain ⟨f,hf⟩:∃ f:Nat→List PV,∀ i row,ops[i]?=some row→(a3A (f i)∧F H (f i))∧Ok j1 [.agg row,.sl 7 H] [] (.agg (f i)):=by
  have hnx:∀ i:Nat,∃ r:List PV,∀ row,ops[i]?=some row→(a3A r∧F H r)∧Ok j1 [.agg row,.sl 7 H] [] (.agg r):=by
   intro i
   cases hr:ops[i]? with
   | none=>exact ⟨[],fun _ h=>by cases h⟩
   | some row=>
     obtain ⟨K,A,B,N,S,rfl,hA,hB,hN⟩:=ho row (List.mem_of_getElem? hr)
     obtain ⟨r,h1,h2⟩:=h8 K A B N S H hA hB hN hH hI
     exact ⟨r,fun _ e=>by cases e;exact ⟨h1,h2⟩⟩
  exact Classical.axiomOfChoice hnx
 let g:Nat→List PV:=fun j=>match d5[j]? with
  | some [.int _ D]=>Q2 (k9 H 3 (IntKind.i64.wrap D))
  | _=>Q2 0
 let vs:List (List PV):=(List.range n).map f
 let ds:Nat→List (List PV):=fun j=>[Q2 0,Q2 1]++(List.range j).map g
 have hds:∀ j,(ds j).length=j+2:=fun j=>by simp [ds]
 refine ⟨H,match vs with | []=>.emp 7 | x::L=>.sl 7 (((x::L).drop 0).take n),((ds n2).drop 0).take (n2+2),⟨hH,hI⟩,?_,?_,?_⟩
 ·have hit:∀ x ∈ vs,a3A x∧F H x:=by
   intro x hx
   obtain ⟨i,hi,rfl⟩:=List.mem_map.1 hx
   have hi':i<n:=List.mem_range.1 hi
   exact (hf i _ (List.getElem?_eq_getElem (by simp only [n] at hi';omega))).1
  have hil:vs.length=n:=by simp [vs]
  have hn:n≤20:=by simp only [n];omega
  revert hit hil
  generalize vs=L
  intro hit hil
  cases L with
  | nil=>exact ⟨n,hn,.inl ⟨rfl,by simpa using hil.symm⟩,.inl ⟨rfl,by simpa using hil.symm⟩⟩
  | cons x L=>
    have hl:(((x::L).drop 0).take n).length=n:=by simp only [List.drop_zero,List.length_take];omega
    exact ⟨n,hn,.inr ⟨_,rfl,hl,by omega,fun y hy=>(hit y (List.mem_of_mem_take (by simpa using hy))).1⟩,.inr ⟨_,rfl,hl,fun y hy=>(hit y (List.mem_of_mem_take (by simpa using hy))).2⟩⟩
 ·have hn:n2≤4:=by simp only [n2];omega
  have hlen:10≤H.length:=by
   obtain ⟨more,rfl,_⟩:=hH
   rw [List.length_append]
   exact Nat.le_add_right _ _
  have hb:∀ r ∈ ((ds n2).drop 0).take (n2+2),∃ (j:Nat) (row:List PV),r=Q2 (j:Int)∧H[j]?=some row∧kindOf row=3:=by
   intro r hr
   have hr:=List.mem_of_mem_take hr
   rw [List.drop_zero] at hr
   rcases List.mem_append.1 hr with h | h
   ·obtain ⟨more,e,_⟩:=id hH
    simp only [List.mem_cons,List.not_mem_nil,or_false] at h
    rcases h with rfl | rfl
    ·exact ⟨0,_,rfl,by rw [e];rfl,rfl⟩
    ·exact ⟨1,_,rfl,by rw [e];rfl,rfl⟩
   ·obtain ⟨j,hj,rfl⟩:=List.mem_map.1 h
    have hj':j<n2:=List.mem_range.1 hj
    have hjd:d5[j]?=some (d5[j]'(by simp only [n2] at hj';omega)):=List.getElem?_eq_getElem _
    obtain ⟨D,e,h0,h1⟩:=hd _ (List.mem_of_getElem? hjd)
    have hg:g j=Q2 (k9 H 3 (IntKind.i64.wrap D)):=by simp only [g,hjd,e]
    have hw:IntKind.i64.wrap D=D:=wrap_small (by omega) (by omega)
    have:=b8P hH (n:=IntKind.i64.wrap D) (by omega)
    rcases b0O (rows:=H) (kind:=3) (n:=IntKind.i64.wrap D) with h | ⟨k,row,h1,h2,h3⟩
    ·omega
    ·exact ⟨k,row,by rw [hg,h1],h2,h3⟩
  refine ⟨⟨by rw [List.drop_zero,List.length_take,hds];omega,by rw [List.length_take];omega,fun r hr=>?_⟩,⟨_,rfl⟩,hb⟩
  obtain ⟨j,row,h1,h2, -⟩:=hb r hr
  exact ⟨j,h1,by omega,by have:=(List.getElem?_eq_some_iff.1 h2).1;omega⟩
 ·conv=>whnf
  refine ⟨_,_,h27,?_⟩
  conv=>whnf
  intro X hX _
  have key:∀ (m i:Nat) (s:St),i+m=n→norm [1,2,3,4] s=sSt cells ops d5 H 4 (i:Int) i 2 [Q2 0,Q2 1] ((List.range i).map f)→X s:=by
   intro m
   induction m with
   | zero=>
     intro i s hi hs
     refine w9 hX s ?_
     rw [hs]
     obtain rfl:i=n:=by omega
     show aw wG Ok _ true _ _ (sSt cells ops d5 H 4 (n:Int) n 2 [Q2 0,Q2 1] vs)
     have hvl:vs.length=n:=by simp [vs]
     have hlt2:decide ((n:Int)<(ops.length:Int))=true→decide ((n:Int)<20)=false:=by simp only [n,decide_eq_true_eq,decide_eq_false_iff_not];omega
     clear hX hs
     generalize vs=L at hvl ⊢
     cases L with
     | nil=>
       cases hlt:decide ((n:Int)<(ops.length:Int)) with
       | true=>
         conv=>whnf
         rw [hlt]
         conv=>whnf
         refine D9 (hlt2 hlt) ?_
         conv=>whnf
         intro X2 hX2 _
         have key2:∀ (m j:Nat) (s:St),j+m=n2→norm [1,2,3,5] s=sSt cells ops d5 H 5 (j:Int) n (j+2) (ds j) []→X2 s:=by
          intro m
          induction m with
          | zero=>
            intro j s hj hs
            refine w9 hX2 s ?_
            obtain rfl:j=n2:=by omega
            have hl2:decide ((n2:Int)<(d5.length:Int))=true→decide ((n2:Int)<4)=false:=by simp only [n2,decide_eq_true_eq,decide_eq_false_iff_not];omega
            rw [hs]
            have hdl:=hds n2
            generalize ds n2=D at hdl ⊢
            cases hd2:decide ((n2:Int)<(d5.length:Int)) with
            | true=>
              conv=>whnf
              rw [hd2]
              conv=>whnf
              refine D9 (hl2 hd2) ?_
              conv=>whnf
              rfl
            | false=>
              conv=>whnf
              rw [hd2]
              conv=>whnf
              rfl
          | succ m ih=>
            intro j s hj hs
            refine w9 hX2 s ?_
            rw [hs]
            have hjn:j<d5.length∧j<4:=by simp only [n2] at hj;omega
            have hd2:decide ((j:Int)<(d5.length:Int))=true:=by simp;omega
            have h4:decide ((j:Int)<4)=true:=by simp;omega
            have hw:IntKind.i64.wrap ((j:Int)+1)=((j+1:Nat):Int):=by rw [wrap_small (by omega) (by omega)];omega
            obtain ⟨row,hrow⟩:∃ row,d5[j]?=some row:=⟨_,List.getElem?_eq_getElem (by omega)⟩
            obtain ⟨Dn,rfl,hD0,hD1⟩:=hd row (List.mem_of_getElem? hrow)
            have hrow':d5[(j:Int).toNat]?=some [.int .u8 Dn]:=by simpa using hrow
            have hwD:IntKind.i64.wrap Dn=Dn:=wrap_small (by omega) (by omega)
            have hcall:=h28 H (IntKind.i64.wrap Dn) hH (by omega)
            have hg:ds (j+1)=ds j++[Q2 (k9 H 3 (IntKind.i64.wrap Dn))]:=by simp [ds,List.range_succ,g,hrow]
            have hgo:∀ s',norm [1,2,3,5] s'=sSt cells ops d5 H 5 (IntKind.i64.wrap ((j:Int)+1)) n (j+2+1) (ds j++[Q2 (k9 H 3 (IntKind.i64.wrap Dn))]) []→X2 s':=fun s' h=>ih (j+1) s' (by omega) (by rw [h,hw,hg])
            have hdl:=hds j
            clear hs ih hg
            generalize ds j=D at hdl hgo ⊢
            generalize k9 H 3 (IntKind.i64.wrap Dn)=pk at hcall hgo
            conv=>whnf
            rw [hd2]
            conv=>whnf
            refine v8 h4 ?_
            conv=>whnf
            refine j6 (e7 (rows:=d5) (j:=(j:Int)) (by rfl) (by rfl) (by omega) hrow') ?_
            conv=>whnf
            refine ⟨_,_,hcall,?_⟩
            conv=>whnf
            refine j6 (M1 (L:=D) (c:=j+2) (xs:=[Q2 pk]) (by rfl) hdl (by rfl) (by rfl) (by simp;omega)) ?_
            conv=>whnf
            refine v8 (by kernel_rfl) ?_
            conv=>whnf
            exact hgo _ rfl
         exact key2 n2 0 _ (by omega) rfl
       | false=>
         conv=>whnf
         rw [hlt]
         conv=>whnf
         intro X2 hX2 _
         have key2:∀ (m j:Nat) (s:St),j+m=n2→norm [1,2,3,5] s=sSt cells ops d5 H 5 (j:Int) n (j+2) (ds j) []→X2 s:=by
          intro m
          induction m with
          | zero=>
            intro j s hj hs
            refine w9 hX2 s ?_
            obtain rfl:j=n2:=by omega
            have hl2:decide ((n2:Int)<(d5.length:Int))=true→decide ((n2:Int)<4)=false:=by simp only [n2,decide_eq_true_eq,decide_eq_false_iff_not];omega
            rw [hs]
            have hdl:=hds n2
            generalize ds n2=D at hdl ⊢
            cases hd2:decide ((n2:Int)<(d5.length:Int)) with
            | true=>
              conv=>whnf
              rw [hd2]
              conv=>whnf
              refine D9 (hl2 hd2) ?_
              conv=>whnf
              rfl
            | false=>
              conv=>whnf
              rw [hd2]
              conv=>whnf
              rfl
          | succ m ih=>
            intro j s hj hs
            refine w9 hX2 s ?_
            rw [hs]
            have hjn:j<d5.length∧j<4:=by simp only [n2] at hj;omega
            have hd2:decide ((j:Int)<(d5.length:Int))=true:=by simp;omega
            have h4:decide ((j:Int)<4)=true:=by simp;omega
            have hw:IntKind.i64.wrap ((j:Int)+1)=((j+1:Nat):Int):=by rw [wrap_small (by omega) (by omega)];omega
            obtain ⟨row,hrow⟩:∃ row,d5[j]?=some row:=⟨_,List.getElem?_eq_getElem (by omega)⟩
            obtain ⟨Dn,rfl,hD0,hD1⟩:=hd row (List.mem_of_getElem? hrow)
            have hrow':d5[(j:Int).toNat]?=some [.int .u8 Dn]:=by simpa using hrow
            have hwD:IntKind.i64.wrap Dn=Dn:=wrap_small (by omega) (by omega)
            have hcall:=h28 H (IntKind.i64.wrap Dn) hH (by omega)
            have hg:ds (j+1)=ds j++[Q2 (k9 H 3 (IntKind.i64.wrap Dn))]:=by simp [ds,List.range_succ,g,hrow]
            have hgo:∀ s',norm [1,2,3,5] s'=sSt cells ops d5 H 5 (IntKind.i64.wrap ((j:Int)+1)) n (j+2+1) (ds j++[Q2 (k9 H 3 (IntKind.i64.wrap Dn))]) []→X2 s':=fun s' h=>ih (j+1) s' (by omega) (by rw [h,hw,hg])
            have hdl:=hds j
            clear hs ih hg
            generalize ds j=D at hdl hgo ⊢
            generalize k9 H 3 (IntKind.i64.wrap Dn)=pk at hcall hgo
            conv=>whnf
            rw [hd2]
            conv=>whnf
            refine v8 h4 ?_
            conv=>whnf
            refine j6 (e7 (rows:=d5) (j:=(j:Int)) (by rfl) (by rfl) (by omega) hrow') ?_
            conv=>whnf
            refine ⟨_,_,hcall,?_⟩
            conv=>whnf
            refine j6 (M1 (L:=D) (c:=j+2) (xs:=[Q2 pk]) (by rfl) hdl (by rfl) (by rfl) (by simp;omega)) ?_
            conv=>whnf
            refine v8 (by kernel_rfl) ?_
            conv=>whnf
            exact hgo _ rfl
         exact key2 n2 0 _ (by omega) rfl
     | cons x L=>
       cases hlt:decide ((n:Int)<(ops.length:Int)) with
       | true=>
         conv=>whnf
         rw [hlt]
         conv=>whnf
         refine D9 (hlt2 hlt) ?_
         conv=>whnf
         intro X2 hX2 _
         have key2:∀ (m j:Nat) (s:St),j+m=n2→norm [1,2,3,5] s=sSt cells ops d5 H 5 (j:Int) n (j+2) (ds j) (x::L)→X2 s:=by
          intro m
          induction m with
          | zero=>
            intro j s hj hs
            refine w9 hX2 s ?_
            obtain rfl:j=n2:=by omega
            have hl2:decide ((n2:Int)<(d5.length:Int))=true→decide ((n2:Int)<4)=false:=by simp only [n2,decide_eq_true_eq,decide_eq_false_iff_not];omega
            rw [hs]
            have hdl:=hds n2
            generalize ds n2=D at hdl ⊢
            cases hd2:decide ((n2:Int)<(d5.length:Int)) with
            | true=>
              conv=>whnf
              rw [hd2]
              conv=>whnf
              refine D9 (hl2 hd2) ?_
              conv=>whnf
              rfl
            | false=>
              conv=>whnf
              rw [hd2]
              conv=>whnf
              rfl
          | succ m ih=>
            intro j s hj hs
            refine w9 hX2 s ?_
            rw [hs]
            have hjn:j<d5.length∧j<4:=by simp only [n2] at hj;omega
            have hd2:decide ((j:Int)<(d5.length:Int))=true:=by simp;omega
            have h4:decide ((j:Int)<4)=true:=by simp;omega
            have hw:IntKind.i64.wrap ((j:Int)+1)=((j+1:Nat):Int):=by rw [wrap_small (by omega) (by omega)];omega
            obtain ⟨row,hrow⟩:∃ row,d5[j]?=some row:=⟨_,List.getElem?_eq_getElem (by omega)⟩
            obtain ⟨Dn,rfl,hD0,hD1⟩:=hd row (List.mem_of_getElem? hrow)
            have hrow':d5[(j:Int).toNat]?=some [.int .u8 Dn]:=by simpa using hrow
            have hwD:IntKind.i64.wrap Dn=Dn:=wrap_small (by omega) (by omega)
            have hcall:=h28 H (IntKind.i64.wrap Dn) hH (by omega)
            have hg:ds (j+1)=ds j++[Q2 (k9 H 3 (IntKind.i64.wrap Dn))]:=by simp [ds,List.range_succ,g,hrow]
            have hgo:∀ s',norm [1,2,3,5] s'=sSt cells ops d5 H 5 (IntKind.i64.wrap ((j:Int)+1)) n (j+2+1) (ds j++[Q2 (k9 H 3 (IntKind.i64.wrap Dn))]) (x::L)→X2 s':=fun s' h=>ih (j+1) s' (by omega) (by rw [h,hw,hg])
            have hdl:=hds j
            clear hs ih hg
            generalize ds j=D at hdl hgo ⊢
            generalize k9 H 3 (IntKind.i64.wrap Dn)=pk at hcall hgo
            conv=>whnf
            rw [hd2]
            conv=>whnf
            refine v8 h4 ?_
            conv=>whnf
            refine j6 (e7 (rows:=d5) (j:=(j:Int)) (by rfl) (by rfl) (by omega) hrow') ?_
            conv=>whnf
            refine ⟨_,_,hcall,?_⟩
            conv=>whnf
            refine j6 (M1 (L:=D) (c:=j+2) (xs:=[Q2 pk]) (by rfl) hdl (by rfl) (by rfl) (by simp;omega)) ?_
            conv=>whnf
            refine v8 (by kernel_rfl) ?_
            conv=>whnf
            exact hgo _ rfl
         exact key2 n2 0 _ (by omega) rfl
       | false=>
         conv=>whnf
         rw [hlt]
         conv=>whnf
         intro X2 hX2 _
         have key2:∀ (m j:Nat) (s:St),j+m=n2→norm [1,2,3,5] s=sSt cells ops d5 H 5 (j:Int) n (j+2) (ds j) (x::L)→X2 s:=by
          intro m
          induction m with
          | zero=>
            intro j s hj hs
            refine w9 hX2 s ?_
            obtain rfl:j=n2:=by omega
            have hl2:decide ((n2:Int)<(d5.length:Int))=true→decide ((n2:Int)<4)=false:=by simp only [n2,decide_eq_true_eq,decide_eq_false_iff_not];omega
            rw [hs]
            have hdl:=hds n2
            generalize ds n2=D at hdl ⊢
            cases hd2:decide ((n2:Int)<(d5.length:Int)) with
            | true=>
              conv=>whnf
              rw [hd2]
              conv=>whnf
              refine D9 (hl2 hd2) ?_
              conv=>whnf
              rfl
            | false=>
              conv=>whnf
              rw [hd2]
              conv=>whnf
              rfl
          | succ m ih=>
            intro j s hj hs
            refine w9 hX2 s ?_
            rw [hs]
            have hjn:j<d5.length∧j<4:=by simp only [n2] at hj;omega
            have hd2:decide ((j:Int)<(d5.length:Int))=true:=by simp;omega
            have h4:decide ((j:Int)<4)=true:=by simp;omega
            have hw:IntKind.i64.wrap ((j:Int)+1)=((j+1:Nat):Int):=by rw [wrap_small (by omega) (by omega)];omega
            obtain ⟨row,hrow⟩:∃ row,d5[j]?=some row:=⟨_,List.getElem?_eq_getElem (by omega)⟩
            obtain ⟨Dn,rfl,hD0,hD1⟩:=hd row (List.mem_of_getElem? hrow)
            have hrow':d5[(j:Int).toNat]?=some [.int .u8 Dn]:=by simpa using hrow
            have hwD:IntKind.i64.wrap Dn=Dn:=wrap_small (by omega) (by omega)
            have hcall:=h28 H (IntKind.i64.wrap Dn) hH (by omega)
            have hg:ds (j+1)=ds j++[Q2 (k9 H 3 (IntKind.i64.wrap Dn))]:=by simp [ds,List.range_succ,g,hrow]
            have hgo:∀ s',norm [1,2,3,5] s'=sSt cells ops d5 H 5 (IntKind.i64.wrap ((j:Int)+1)) n (j+2+1) (ds j++[Q2 (k9 H 3 (IntKind.i64.wrap Dn))]) (x::L)→X2 s':=fun s' h=>ih (j+1) s' (by omega) (by rw [h,hw,hg])
            have hdl:=hds j
            clear hs ih hg
            generalize ds j=D at hdl hgo ⊢
            generalize k9 H 3 (IntKind.i64.wrap Dn)=pk at hcall hgo
            conv=>whnf
            rw [hd2]
            conv=>whnf
            refine v8 h4 ?_
            conv=>whnf
            refine j6 (e7 (rows:=d5) (j:=(j:Int)) (by rfl) (by rfl) (by omega) hrow') ?_
            conv=>whnf
            refine ⟨_,_,hcall,?_⟩
            conv=>whnf
            refine j6 (M1 (L:=D) (c:=j+2) (xs:=[Q2 pk]) (by rfl) hdl (by rfl) (by rfl) (by simp;omega)) ?_
            conv=>whnf
            refine v8 (by kernel_rfl) ?_
            conv=>whnf
            exact hgo _ rfl
         exact key2 n2 0 _ (by omega) rfl
   | succ m ih=>
     intro i s hi hs
     refine w9 hX s ?_
     rw [hs]
     have hin:i<ops.length∧i<20:=by simp only [n] at hi;omega
     have hlt:decide ((i:Int)<(ops.length:Int))=true:=by simp;omega
     have h20:decide ((i:Int)<20)=true:=by simp;omega
     have hw:IntKind.i64.wrap ((i:Int)+1)=((i+1:Nat):Int):=by rw [wrap_small (by omega) (by omega)];omega
     obtain ⟨row,hrow⟩:∃ row,ops[i]?=some row:=⟨_,List.getElem?_eq_getElem (by omega)⟩
     obtain ⟨⟨⟨q1,q2,q3,q4,q5,q6,q7,hqn,hfi⟩,_⟩,hp⟩:=hf i row hrow
     obtain ⟨K,A,B,N,S,rfl,hA,hB⟩:=ho row (List.mem_of_getElem? hrow)
     have hrow':ops[(i:Int).toNat]?=some [.int .u8 K,.int .u8 A,.int .u8 B,.int .i32 N,.str S]:=by simpa using hrow
     have hnext:(List.range (i+1)).map f=(List.range i).map f++[f i]:=by simp [List.range_succ]
     have hgo:∀ s',norm [1,2,3,4] s'=sSt cells ops d5 H 4 (IntKind.i64.wrap ((i:Int)+1)) (i+1) 2 [Q2 0,Q2 1] ((List.range i).map f++[f i])→X s':=fun s' h=>ih (i+1) s' (by omega) (by rw [h,hw,hnext])
     have hlen:((List.range i).map f).length=i:=by simp
     clear hnext ih hs
     rw [hfi] at hgo hp
     generalize (List.range i).map f=L at hgo hlen ⊢
     cases L with
     | nil=>
       conv=>whnf
       rw [hlt]
       conv=>whnf
       refine v8 h20 ?_
       conv=>whnf
       refine j6 (e7 (rows:=ops) (j:=(i:Int)) (by rfl) (by rfl) (by omega) hrow') ?_
       conv=>whnf
       refine ⟨_,_,hp,?_⟩
       conv=>whnf
       refine v8 (by kernel_rfl) ?_
       conv=>whnf
       simp only [List.length_nil] at hlen
       subst hlen
       exact hgo _ rfl
     | cons x L=>
       conv=>whnf
       rw [hlt]
       conv=>whnf
       refine v8 h20 ?_
       conv=>whnf
       refine j6 (e7 (rows:=ops) (j:=(i:Int)) (by rfl) (by rfl) (by omega) hrow') ?_
       conv=>whnf
       refine ⟨_,_,hp,?_⟩
       conv=>whnf
       refine j6 (M1 (L:=x::L) (c:=i) (xs:=[[.int .i64 q1,.bool q2,.int .i64 q3,.str q4,.int .i64 q5,.int .i64 q6,.int .i64 q7]]) (by rfl) hlen (by rfl) (by rfl) (by simp;omega)) ?_
       conv=>whnf
       refine v8 (by kernel_rfl) ?_
       conv=>whnf
       exact hgo _ rfl
  exact key n 0 _ (by omega) rfl
end Go.Ab.Td
