/- A part of the proof: the texts TdWs, TdWk. Under: nothing. -/
import Derived.Test.YtngmifmcohmfmaaDoorG17
import Derived.Test.YtngmifmcohmfmaaDoorG12
set_option linter.unusedVariables false
namespace Go.Ab.Td
set_option maxRecDepth 100000
set_option maxRecDepth 100000
open Go Go.Ab
variable {P:Program}
attribute [local irreducible] d8
set_option maxHeartbeats 4000000 in
theorem b7S (F:List (List PV)→List PV→Prop) (Inv:List (List PV)→Prop) (Ok:Nat→List PV→Own→PV→Prop) (cells ops d9:List (List PV)) (ho:∀ r ∈ ops,a4u r) (hd:∀ r ∈ d9,∃ D,r=[.int .u8 D]∧0≤D∧D<256)
 (h27:∃ H,(a4s H∧Inv H)∧Ok F8 [.agg [.sl 5 cells,.sl 5 ops,.sl 1 d9]] [] (.sl 7 H))
 (h8:∀ K A B N S H,0≤A∧A<256→0≤B∧B<256→ -2147483648≤N∧N≤2147483647→a4s H→Inv H→∃ r,(a2Q r∧F H r)∧Ok c9 [B5 K A B N S,.sl 7 H] [] (.agg r))
 (h28:∀ H n,a4s H→0≤n→Ok J2 [.sl 7 H,.int .i64 3,.int .i64 n] [] (.int .i64 (j7 H 3 n))):
 ∃ H O D,(a4s H∧Inv H)∧(∃ m,m≤20∧SlR O m∧SlF (F H) O m)∧c4R D H∧fnW wG Ok noX noT noT 0 V4 [.agg [.sl 5 cells,.sl 5 ops,.sl 1 d9]] (stV O (.sl 7 D) (.sl 7 H) (.int .i64 1)):=by
 obtain ⟨H,⟨hH,hI⟩,h27⟩:=h27
 let n:=min ops.length 20
 let n2:=min d9.length 4
 obtain ⟨f,hf⟩:∃ f:Nat→List PV,∀ i row,ops[i]?=some row→(a2Q (f i)∧F H (f i))∧Ok c9 [.agg row,.sl 7 H] [] (.agg (f i)):=by
  have hnx:∀ i:Nat,∃ r:List PV,∀ row,ops[i]?=some row→(a2Q r∧F H r)∧Ok c9 [.agg row,.sl 7 H] [] (.agg r):=by
   intro i
   cases hr:ops[i]? with
   | none=>exact ⟨[],fun _ h=>by cases h⟩
   | some row=>
     obtain ⟨K,A,B,N,S,rfl,hA,hB,hN⟩:=ho row (List.mem_of_getElem? hr)
     obtain ⟨r,h1,h2⟩:=h8 K A B N S H hA hB hN hH hI
     exact ⟨r,fun _ e=>by cases e;exact ⟨h1,h2⟩⟩
  exact Classical.axiomOfChoice hnx
 let g:Nat→List PV:=fun j=>match d9[j]? with
  | some [.int _ D]=>Z6 (j7 H 3 (IntKind.i64.wrap D))
  | _=>Z6 0
 let vs:List (List PV):=(List.range n).map f
 let ds:Nat→List (List PV):=fun j=>[Z6 0,Z6 1]++(List.range j).map g
 have hds:∀ j,(ds j).length=j+2:=fun j=>by simp [ds]
 refine ⟨H,match vs with | []=>.emp 7 | x::L=>.sl 7 (((x::L).drop 0).take n),((ds n2).drop 0).take (n2+2),⟨hH,hI⟩,?_,?_,?_⟩
 ·have hit:∀ x ∈ vs,a2Q x∧F H x:=by
   intro x hx
   obtain ⟨i,hi,rfl⟩:=List.mem_map.1 hx
   have hi':i<n:=List.mem_range.1 hi
   exact (hf i _ (List.getElem?_eq_getElem (by simp only [n] at hi';omega))).1
  have hil:vs.length=n:=by simp [vs]
  have hn:n≤20:=by simp only [n];omega
  revert hit hil
  generalize vs=L
  intro hit hil
  cases L with
  | nil=>exact ⟨n,hn,.inl ⟨rfl,by simpa using hil.symm⟩,.inl ⟨rfl,by simpa using hil.symm⟩⟩
  | cons x L=>
    have hl:(((x::L).drop 0).take n).length=n:=by simp only [List.drop_zero,List.length_take];omega
    exact ⟨n,hn,.inr ⟨_,rfl,hl,by omega,fun y hy=>(hit y (List.mem_of_mem_take (by simpa using hy))).1⟩,.inr ⟨_,rfl,hl,fun y hy=>(hit y (List.mem_of_mem_take (by simpa using hy))).2⟩⟩
 ·have hn:n2≤4:=by simp only [n2];omega
  have hlen:10≤H.length:=by
   obtain ⟨more,rfl,_⟩:=hH
   rw [List.length_append]
   exact Nat.le_add_right _ _
  refine ⟨by rw [List.drop_zero,List.length_take,hds];omega,by rw [List.length_take];omega,?_⟩
  intro r hr
  have hr:=List.mem_of_mem_take hr
  rw [List.drop_zero] at hr
  rcases List.mem_append.1 hr with h | h
  ·simp only [List.mem_cons,List.not_mem_nil,or_false] at h
   rcases h with rfl | rfl
   ·exact ⟨0,rfl,by omega,by omega⟩
   ·exact ⟨1,rfl,by omega,by omega⟩
  ·obtain ⟨j,hj,rfl⟩:=List.mem_map.1 h
   have hj':j<n2:=List.mem_range.1 hj
   have hjd:d9[j]?=some (d9[j]'(by simp only [n2] at hj';omega)):=List.getElem?_eq_getElem _
   obtain ⟨D,e,h0,h1⟩:=hd _ (List.mem_of_getElem? hjd)
   have hg:g j=Z6 (j7 H 3 (IntKind.i64.wrap D)):=by simp only [g,hjd,e]
   have hw:IntKind.i64.wrap D=D:=wrap_small (by omega) (by omega)
   have:=c0e hH (n:=IntKind.i64.wrap D) (by omega)
   exact ⟨_,hg,this.1,this.2⟩
 ·conv=>whnf
  refine ⟨_,_,h27,?_⟩
  conv=>whnf
  intro X hX _
  have key:∀ (m i:Nat) (s:St),i+m=n→norm [1,2,3,4] s=sSt cells ops d9 H 4 (i:Int) i 2 [Z6 0,Z6 1] ((List.range i).map f)→X s:=by
   intro m
   induction m with
   | zero=>
     intro i s hi hs
     refine w9 hX s ?_
     rw [hs]
     obtain rfl:i=n:=by omega
     show aw wG Ok _ true _ _ (sSt cells ops d9 H 4 (n:Int) n 2 [Z6 0,Z6 1] vs)
     have hvl:vs.length=n:=by simp [vs]
     have hlt2:decide ((n:Int)<(ops.length:Int))=true→decide ((n:Int)<20)=false:=by simp only [n,decide_eq_true_eq,decide_eq_false_iff_not];omega
     clear hX hs
     generalize vs=L at hvl ⊢
     cases L with
     | nil=>
       cases hlt:decide ((n:Int)<(ops.length:Int)) with
       | true=>
         conv=>whnf
         rw [hlt]
         conv=>whnf
         refine E6 (hlt2 hlt) ?_
         conv=>whnf
         intro X2 hX2 _
         have key2:∀ (m j:Nat) (s:St),j+m=n2→norm [1,2,3,5] s=sSt cells ops d9 H 5 (j:Int) n (j+2) (ds j) []→X2 s:=by
          intro m
          induction m with
          | zero=>
            intro j s hj hs
            refine w9 hX2 s ?_
            obtain rfl:j=n2:=by omega
            have hl2:decide ((n2:Int)<(d9.length:Int))=true→decide ((n2:Int)<4)=false:=by simp only [n2,decide_eq_true_eq,decide_eq_false_iff_not];omega
            rw [hs]
            have hdl:=hds n2
            generalize ds n2=D at hdl ⊢
            cases hd2:decide ((n2:Int)<(d9.length:Int)) with
            | true=>
              conv=>whnf
              rw [hd2]
              conv=>whnf
              refine E6 (hl2 hd2) ?_
              conv=>whnf
              rfl
            | false=>
              conv=>whnf
              rw [hd2]
              conv=>whnf
              rfl
          | succ m ih=>
            intro j s hj hs
            refine w9 hX2 s ?_
            rw [hs]
            have hjn:j<d9.length∧j<4:=by simp only [n2] at hj;omega
            have hd2:decide ((j:Int)<(d9.length:Int))=true:=by simp;omega
            have h4:decide ((j:Int)<4)=true:=by simp;omega
            have hw:IntKind.i64.wrap ((j:Int)+1)=((j+1:Nat):Int):=by rw [wrap_small (by omega) (by omega)];omega
            obtain ⟨row,hrow⟩:∃ row,d9[j]?=some row:=⟨_,List.getElem?_eq_getElem (by omega)⟩
            obtain ⟨Dn,rfl,hD0,hD1⟩:=hd row (List.mem_of_getElem? hrow)
            have hrow':d9[(j:Int).toNat]?=some [.int .u8 Dn]:=by simpa using hrow
            have hwD:IntKind.i64.wrap Dn=Dn:=wrap_small (by omega) (by omega)
            have hcall:=h28 H (IntKind.i64.wrap Dn) hH (by omega)
            have hg:ds (j+1)=ds j++[Z6 (j7 H 3 (IntKind.i64.wrap Dn))]:=by simp [ds,List.range_succ,g,hrow]
            have hgo:∀ s',norm [1,2,3,5] s'=sSt cells ops d9 H 5 (IntKind.i64.wrap ((j:Int)+1)) n (j+2+1) (ds j++[Z6 (j7 H 3 (IntKind.i64.wrap Dn))]) []→X2 s':=fun s' h=>ih (j+1) s' (by omega) (by rw [h,hw,hg])
            have hdl:=hds j
            clear hs ih hg
            generalize ds j=D at hdl hgo ⊢
            generalize j7 H 3 (IntKind.i64.wrap Dn)=pk at hcall hgo
            conv=>whnf
            rw [hd2]
            conv=>whnf
            refine w6 h4 ?_
            conv=>whnf
            refine j1 (e8 (rows:=d9) (j:=(j:Int)) (by rfl) (by rfl) (by omega) hrow') ?_
            conv=>whnf
            refine ⟨_,_,hcall,?_⟩
            conv=>whnf
            refine j1 (M3 (L:=D) (c:=j+2) (xs:=[Z6 pk]) (by rfl) hdl (by rfl) (by rfl) (by simp;omega)) ?_
            conv=>whnf
            refine w6 (by kernel_rfl) ?_
            conv=>whnf
            exact hgo _ rfl
         exact key2 n2 0 _ (by omega) rfl
       | false=>
         conv=>whnf
         rw [hlt]
         conv=>whnf
         intro X2 hX2 _
         have key2:∀ (m j:Nat) (s:St),j+m=n2→norm [1,2,3,5] s=sSt cells ops d9 H 5 (j:Int) n (j+2) (ds j) []→X2 s:=by
          intro m
          induction m with
          | zero=>
            intro j s hj hs
            refine w9 hX2 s ?_
            obtain rfl:j=n2:=by omega
            have hl2:decide ((n2:Int)<(d9.length:Int))=true→decide ((n2:Int)<4)=false:=by simp only [n2,decide_eq_true_eq,decide_eq_false_iff_not];omega
            rw [hs]
            have hdl:=hds n2
            generalize ds n2=D at hdl ⊢
            cases hd2:decide ((n2:Int)<(d9.length:Int)) with
            | true=>
              conv=>whnf
              rw [hd2]
              conv=>whnf
              refine E6 (hl2 hd2) ?_
              conv=>whnf
              rfl
            | false=>
              conv=>whnf
              rw [hd2]
              conv=>whnf
              rfl
          | succ m ih=>
            intro j s hj hs
            refine w9 hX2 s ?_
            rw [hs]
            have hjn:j<d9.length∧j<4:=by simp only [n2] at hj;omega
            have hd2:decide ((j:Int)<(d9.length:Int))=true:=by simp;omega
            have h4:decide ((j:Int)<4)=true:=by simp;omega
            have hw:IntKind.i64.wrap ((j:Int)+1)=((j+1:Nat):Int):=by rw [wrap_small (by omega) (by omega)];omega
            obtain ⟨row,hrow⟩:∃ row,d9[j]?=some row:=⟨_,List.getElem?_eq_getElem (by omega)⟩
            obtain ⟨Dn,rfl,hD0,hD1⟩:=hd row (List.mem_of_getElem? hrow)
            have hrow':d9[(j:Int).toNat]?=some [.int .u8 Dn]:=by simpa using hrow
            have hwD:IntKind.i64.wrap Dn=Dn:=wrap_small (by omega) (by omega)
            have hcall:=h28 H (IntKind.i64.wrap Dn) hH (by omega)
            have hg:ds (j+1)=ds j++[Z6 (j7 H 3 (IntKind.i64.wrap Dn))]:=by simp [ds,List.range_succ,g,hrow]
            have hgo:∀ s',norm [1,2,3,5] s'=sSt cells ops d9 H 5 (IntKind.i64.wrap ((j:Int)+1)) n (j+2+1) (ds j++[Z6 (j7 H 3 (IntKind.i64.wrap Dn))]) []→X2 s':=fun s' h=>ih (j+1) s' (by omega) (by rw [h,hw,hg])
            have hdl:=hds j
            clear hs ih hg
            generalize ds j=D at hdl hgo ⊢
            generalize j7 H 3 (IntKind.i64.wrap Dn)=pk at hcall hgo
            conv=>whnf
            rw [hd2]
            conv=>whnf
            refine w6 h4 ?_
            conv=>whnf
            refine j1 (e8 (rows:=d9) (j:=(j:Int)) (by rfl) (by rfl) (by omega) hrow') ?_
            conv=>whnf
            refine ⟨_,_,hcall,?_⟩
            conv=>whnf
            refine j1 (M3 (L:=D) (c:=j+2) (xs:=[Z6 pk]) (by rfl) hdl (by rfl) (by rfl) (by simp;omega)) ?_
            conv=>whnf
            refine w6 (by kernel_rfl) ?_
            conv=>whnf
            exact hgo _ rfl
         exact key2 n2 0 _ (by omega) rfl
     | cons x L=>
       cases hlt:decide ((n:Int)<(ops.length:Int)) with
       | true=>
         conv=>whnf
         rw [hlt]
         conv=>whnf
         refine E6 (hlt2 hlt) ?_
         conv=>whnf
         intro X2 hX2 _
         have key2:∀ (m j:Nat) (s:St),j+m=n2→norm [1,2,3,5] s=sSt cells ops d9 H 5 (j:Int) n (j+2) (ds j) (x::L)→X2 s:=by
          intro m
          induction m with
          | zero=>
            intro j s hj hs
            refine w9 hX2 s ?_
            obtain rfl:j=n2:=by omega
            have hl2:decide ((n2:Int)<(d9.length:Int))=true→decide ((n2:Int)<4)=false:=by simp only [n2,decide_eq_true_eq,decide_eq_false_iff_not];omega
            rw [hs]
            have hdl:=hds n2
            generalize ds n2=D at hdl ⊢
            cases hd2:decide ((n2:Int)<(d9.length:Int)) with
            | true=>
              conv=>whnf
              rw [hd2]
              conv=>whnf
              refine E6 (hl2 hd2) ?_
              conv=>whnf
              rfl
            | false=>
              conv=>whnf
              rw [hd2]
              conv=>whnf
              rfl
          | succ m ih=>
            intro j s hj hs
            refine w9 hX2 s ?_
            rw [hs]
            have hjn:j<d9.length∧j<4:=by simp only [n2] at hj;omega
            have hd2:decide ((j:Int)<(d9.length:Int))=true:=by simp;omega
            have h4:decide ((j:Int)<4)=true:=by simp;omega
            have hw:IntKind.i64.wrap ((j:Int)+1)=((j+1:Nat):Int):=by rw [wrap_small (by omega) (by omega)];omega
            obtain ⟨row,hrow⟩:∃ row,d9[j]?=some row:=⟨_,List.getElem?_eq_getElem (by omega)⟩
            obtain ⟨Dn,rfl,hD0,hD1⟩:=hd row (List.mem_of_getElem? hrow)
            have hrow':d9[(j:Int).toNat]?=some [.int .u8 Dn]:=by simpa using hrow
            have hwD:IntKind.i64.wrap Dn=Dn:=wrap_small (by omega) (by omega)
            have hcall:=h28 H (IntKind.i64.wrap Dn) hH (by omega)
            have hg:ds (j+1)=ds j++[Z6 (j7 H 3 (IntKind.i64.wrap Dn))]:=by simp [ds,List.range_succ,g,hrow]
            have hgo:∀ s',norm [1,2,3,5] s'=sSt cells ops d9 H 5 (IntKind.i64.wrap ((j:Int)+1)) n (j+2+1) (ds j++[Z6 (j7 H 3 (IntKind.i64.wrap Dn))]) (x::L)→X2 s':=fun s' h=>ih (j+1) s' (by omega) (by rw [h,hw,hg])
            have hdl:=hds j
            clear hs ih hg
            generalize ds j=D at hdl hgo ⊢
            generalize j7 H 3 (IntKind.i64.wrap Dn)=pk at hcall hgo
            conv=>whnf
            rw [hd2]
            conv=>whnf
            refine w6 h4 ?_
            conv=>whnf
            refine j1 (e8 (rows:=d9) (j:=(j:Int)) (by rfl) (by rfl) (by omega) hrow') ?_
            conv=>whnf
            refine ⟨_,_,hcall,?_⟩
            conv=>whnf
            refine j1 (M3 (L:=D) (c:=j+2) (xs:=[Z6 pk]) (by rfl) hdl (by rfl) (by rfl) (by simp;omega)) ?_
            conv=>whnf
            refine w6 (by kernel_rfl) ?_
            conv=>whnf
            exact hgo _ rfl
         exact key2 n2 0 _ (by omega) rfl
       | false=>
         conv=>whnf
         rw [hlt]
         conv=>whnf
         intro X2 hX2 _
         have key2:∀ (m j:Nat) (s:St),j+m=n2→norm [1,2,3,5] s=sSt cells ops d9 H 5 (j:Int) n (j+2) (ds j) (x::L)→X2 s:=by
          intro m
          induction m with
          | zero=>
            intro j s hj hs
            refine w9 hX2 s ?_
            obtain rfl:j=n2:=by omega
            have hl2:decide ((n2:Int)<(d9.length:Int))=true→decide ((n2:Int)<4)=false:=by simp only [n2,decide_eq_true_eq,decide_eq_false_iff_not];omega
            rw [hs]
            have hdl:=hds n2
            generalize ds n2=D at hdl ⊢
            cases hd2:decide ((n2:Int)<(d9.length:Int)) with
            | true=>
              conv=>whnf
              rw [hd2]
              conv=>whnf
              refine E6 (hl2 hd2) ?_
              conv=>whnf
              rfl
            | false=>
              conv=>whnf
              rw [hd2]
              conv=>whnf
              rfl
          | succ m ih=>
            intro j s hj hs
            refine w9 hX2 s ?_
            rw [hs]
            have hjn:j<d9.length∧j<4:=by simp only [n2] at hj;omega
            have hd2:decide ((j:Int)<(d9.length:Int))=true:=by simp;omega
            have h4:decide ((j:Int)<4)=true:=by simp;omega
            have hw:IntKind.i64.wrap ((j:Int)+1)=((j+1:Nat):Int):=by rw [wrap_small (by omega) (by omega)];omega
            obtain ⟨row,hrow⟩:∃ row,d9[j]?=some row:=⟨_,List.getElem?_eq_getElem (by omega)⟩
            obtain ⟨Dn,rfl,hD0,hD1⟩:=hd row (List.mem_of_getElem? hrow)
            have hrow':d9[(j:Int).toNat]?=some [.int .u8 Dn]:=by simpa using hrow
            have hwD:IntKind.i64.wrap Dn=Dn:=wrap_small (by omega) (by omega)
            have hcall:=h28 H (IntKind.i64.wrap Dn) hH (by omega)
            have hg:ds (j+1)=ds j++[Z6 (j7 H 3 (IntKind.i64.wrap Dn))]:=by simp [ds,List.range_succ,g,hrow]
            have hgo:∀ s',norm [1,2,3,5] s'=sSt cells ops d9 H 5 (IntKind.i64.wrap ((j:Int)+1)) n (j+2+1) (ds j++[Z6 (j7 H 3 (IntKind.i64.wrap Dn))]) (x::L)→X2 s':=fun s' h=>ih (j+1) s' (by omega) (by rw [h,hw,hg])
            have hdl:=hds j
            clear hs ih hg
            generalize ds j=D at hdl hgo ⊢
            generalize j7 H 3 (IntKind.i64.wrap Dn)=pk at hcall hgo
            conv=>whnf
            rw [hd2]
            conv=>whnf
            refine w6 h4 ?_
            conv=>whnf
            refine j1 (e8 (rows:=d9) (j:=(j:Int)) (by rfl) (by rfl) (by omega) hrow') ?_
            conv=>whnf
            refine ⟨_,_,hcall,?_⟩
            conv=>whnf
            refine j1 (M3 (L:=D) (c:=j+2) (xs:=[Z6 pk]) (by rfl) hdl (by rfl) (by rfl) (by simp;omega)) ?_
            conv=>whnf
            refine w6 (by kernel_rfl) ?_
            conv=>whnf
            exact hgo _ rfl
         exact key2 n2 0 _ (by omega) rfl
   | succ m ih=>
     intro i s hi hs
     refine w9 hX s ?_
     rw [hs]
     have hin:i<ops.length∧i<20:=by simp only [n] at hi;omega
     have hlt:decide ((i:Int)<(ops.length:Int))=true:=by simp;omega
     have h20:decide ((i:Int)<20)=true:=by simp;omega
     have hw:IntKind.i64.wrap ((i:Int)+1)=((i+1:Nat):Int):=by rw [wrap_small (by omega) (by omega)];omega
     obtain ⟨row,hrow⟩:∃ row,ops[i]?=some row:=⟨_,List.getElem?_eq_getElem (by omega)⟩
     obtain ⟨⟨⟨q1,q2,q3,q4,q5,q6,q7,hqn,hfi⟩,_⟩,hp⟩:=hf i row hrow
     obtain ⟨K,A,B,N,S,rfl,hA,hB⟩:=ho row (List.mem_of_getElem? hrow)
     have hrow':ops[(i:Int).toNat]?=some [.int .u8 K,.int .u8 A,.int .u8 B,.int .i32 N,.str S]:=by simpa using hrow
     have hnext:(List.range (i+1)).map f=(List.range i).map f++[f i]:=by simp [List.range_succ]
     have hgo:∀ s',norm [1,2,3,4] s'=sSt cells ops d9 H 4 (IntKind.i64.wrap ((i:Int)+1)) (i+1) 2 [Z6 0,Z6 1] ((List.range i).map f++[f i])→X s':=fun s' h=>ih (i+1) s' (by omega) (by rw [h,hw,hnext])
     have hlen:((List.range i).map f).length=i:=by simp
     clear hnext ih hs
     rw [hfi] at hgo hp
     generalize (List.range i).map f=L at hgo hlen ⊢
     cases L with
     | nil=>
       conv=>whnf
       rw [hlt]
       conv=>whnf
       refine w6 h20 ?_
       conv=>whnf
       refine j1 (e8 (rows:=ops) (j:=(i:Int)) (by rfl) (by rfl) (by omega) hrow') ?_
       conv=>whnf
       refine ⟨_,_,hp,?_⟩
       conv=>whnf
       refine w6 (by kernel_rfl) ?_
       conv=>whnf
       simp only [List.length_nil] at hlen
       subst hlen
       exact hgo _ rfl
     | cons x L=>
       conv=>whnf
       rw [hlt]
       conv=>whnf
       refine w6 h20 ?_
       conv=>whnf
       refine j1 (e8 (rows:=ops) (j:=(i:Int)) (by rfl) (by rfl) (by omega) hrow') ?_
       conv=>whnf
       refine ⟨_,_,hp,?_⟩
       conv=>whnf
       refine j1 (M3 (L:=x::L) (c:=i) (xs:=[[.int .i64 q1,.bool q2,.int .i64 q3,.str q4,.int .i64 q5,.int .i64 q6,.int .i64 q7]]) (by rfl) hlen (by rfl) (by rfl) (by simp;omega)) ?_
       conv=>whnf
       refine w6 (by kernel_rfl) ?_
       conv=>whnf
       exact hgo _ rfl
  exact key n 0 _ (by omega) rfl
end Go.Ab.Td
namespace Go.Ab.Td
set_option maxRecDepth 100000
set_option maxRecDepth 100000
open Go Go.Ab
variable {P:Program}
set_option linter.unusedSimpArgs false
theorem a2g {p:Prop} [Decidable p] {a b:Ob} (h1:a.kind≠12) (h2:b.kind≠12):(if p then a else b).kind≠12:=by
 by_cases hp:p
 ·rw [if_pos hp];exact h1
 ·rw [if_neg hp];exact h2
theorem c1V (h:List Cl) (kd cl A B N:Int) (hk:kd≠12):(a0V h kd cl A B N).kind≠12:=by
 unfold a0V
 dsimp only
 exact a2g (by first | (simp;done) | (simp [ob0];done)) (a2g hk (a2g hk hk))
theorem b5f (h:List Cl) (K A B N:Int):(a8a h K A B N).kind≠12:=by
 have hp:=fun kd cl hk=>c1V h kd cl A B N hk
 unfold a8a
 exact a2g (by first | (simp;done) | (simp [ob0];done)) (a2g (by first | (simp;done) | (simp [ob0];done)) (a2g (by first | (simp;done) | (simp [ob0];done)) (a2g (by first | (simp;done) | (simp [ob0];done)) (a2g (by first | (simp;done) | (simp [ob0];done)) (a2g (by first | (simp;done) | (simp [ob0];done)) (a2g (by first | (simp;done) | (simp [ob0];done)) (a2g (by first | (simp;done) | (simp [ob0];done)) (a2g (hp 6 1 (by decide)) (a2g (hp 7 2 (by decide)) (a2g (hp 8 2 (by decide)) (a2g (hp 9 3 (by decide)) (a2g (by first | (simp;done) | (simp [ob0];done)) (hp 11 4 (by decide))))))))))))))
theorem c7v {rr:List (List PV)} (h:∀ x ∈ rr,∃ o:Ob,x=g9 o∧o.kind≠12) (lo:List Ob) (e:rr=lo.map g9):∀ o ∈ lo,o.kind≠12:=by
 intro o ho
 obtain ⟨o2,h1,h2⟩:=h (g9 o) (by rw [e];exact List.mem_map_of_mem ho)
 simp only [g9,List.cons.injEq,PV.int.injEq,true_and] at h1
 rw [h1.1];exact h2
theorem c7Z {q:PV} {m:Nat} (h:SlR q m) (hF:SlF (fun r=>∃ o:Ob,r=g9 o∧o.kind≠12) q m):∃ l:List Ob,PV.le q (.sl 7 (l.map g9))∧l.length=m∧m≤1000∧(∀ o ∈ l,o.n<9223372036854775808)∧∀ o ∈ l,o.kind≠12:=by
 rcases h with ⟨rfl,rfl⟩ | ⟨rr,rfl,h1,h2,h3⟩
 ·exact ⟨[],.emp 7,rfl,by omega,by simp,by simp⟩
 ·obtain ⟨l,e,hl⟩:=c4D h3
  have hk:∀ x ∈ rr,∃ o:Ob,x=g9 o∧o.kind≠12:=by
   rcases hF with ⟨h, -⟩ | ⟨r2,h, -,hf⟩
   ·cases h
   ·simp only [PV.sl.injEq,true_and] at h
    subst h
    exact hf
  exact ⟨l,by rw [e];exact .refl _,by rw [e] at h1;simpa using h1,h2,hl,c7v hk l e⟩
theorem b7w (C:Laid P) (cells ops d9:List (List PV)) (hc:∀ r ∈ cells,a4u r) (ho:∀ r ∈ ops,a4u r) (hd:∀ r ∈ d9,∃ D,r=[.int .u8 D]∧0≤D∧D<256):
 ∃ s,(c4T s∧a5U s.heap∧∀ o ∈ s.ops,o.kind≠12)∧j6 P G D8 [.agg [.sl 5 cells,.sl 5 ops,.sl 1 d9]] [] (aS s):=by
 obtain ⟨H,O,D,⟨hH,t,e1,hn0,htv⟩,⟨m,hm,hO,hK⟩,hD,h4⟩:=b7S (fun _ r=>∃ o:Ob,r=g9 o∧o.kind≠12) (fun H=>∃ h,LeR H (h.map k9)∧H.length=h.length∧a5U h) (j6 P G) cells ops d9 ho hd (b7v C cells ops d9 hc) (fun K A B N S H a b n hH ⟨h,e,hl,tv⟩=>by
  obtain ⟨r,⟨f,fr⟩,h2⟩:=b6n C tv.1 e K A B N S a b n
  exact ⟨_,⟨b1k (h:=h) ⟨_,rfl,b6b tv.1 K A B N a b n,b6w h K A B N a n⟩,_,rfl,b5f h K A B N⟩,a9l (J5 C h tv.1.small K A B N S a b n) (.cons (.refl _) (.cons (b9e e) .nil))⟩) (fun H n hH hn=>c1G C H hH.all.1 hH.all.2 3 n hn)
 have h:=a6u C (a7d C) rfl h4
 have hn:t.length=H.length:=hn0.symm
 have ht:=htv.1
 obtain ⟨lo,e2,hlo,_,hob,hlk⟩:=c7Z hO hK
 have hDt:∀ {rr:List (List PV)},(∀ r ∈ rr,∃ j:Int,r=Z6 j∧0≤j∧j<H.length)→∃ l:List Ob,rr=l.map g9∧∀ o ∈ l,∃ j:Int,o=dO j∧0≤j∧j<H.length:=by
  intro rr
  induction rr with
  | nil=>exact fun _=>⟨[],rfl,by simp⟩
  | cons r rr ih=>
    intro hx
    obtain ⟨j,rfl,hj⟩:=hx r (by simp)
    obtain ⟨l,rfl,hl⟩:=ih fun y hy=>hx y (by simp [hy])
    refine ⟨dO j::l,rfl,?_⟩
    intro y hy
    rcases List.mem_cons.1 hy with rfl | hy
    ·exact ⟨j,rfl,hj⟩
    ·exact hl y hy
 obtain ⟨d1,d2,d3⟩:=hD
 obtain ⟨ld,rfl,hld⟩:=hDt d3
 refine ⟨mkS lo ld t,⟨⟨lo,ld,t,rfl,ht,by omega,hob,by simpa using d1,by simpa using d2,by rw [hn];exact hld⟩,htv,hlk⟩,b9h h ?_⟩
 refine s7 (.cons e2 (.cons (.refl _) (.cons (b9e e1) ?_)))
 exact .cons (.emp _) (.cons (.refl _) (.cons (.refl _) (.cons (.refl _) (.cons (.refl _) (.cons (.refl _) (.cons (.refl _) (.cons (.refl _) (.cons (.emp _) (.cons (.refl _) (.cons (.refl _) (.cons (.refl _) (.cons (.refl _) (.cons (.refl _) (.cons (.refl _) (.cons (.refl _) (.cons (.refl _) (.cons (.refl _) (.cons (.refl _) (.cons (.refl _) (.cons (.refl _) (.cons (.refl _) (.cons (.refl _) (.cons (.refl _) (.cons (.refl _) (.cons (.refl _) (.cons (.refl _) (.cons (.refl _) (.cons (.refl _) (.cons (.refl _) (.cons (.refl _) (.cons (.emp _) (.cons (.refl _) (.cons (.refl _) (.cons (.refl _) (.cons (.refl _) (.cons (.refl _) (.cons (.refl _) (.cons (.refl _) (.cons (.refl _) (.cons (.emp _) (.cons (.refl _) (.cons (.refl _) (.cons (.emp _) (.cons (.refl _) (.cons (.refl _) (.cons (.refl _) (.cons (.refl _) (.cons (.refl _) (.cons (.refl _) (.cons (.refl _) (.cons (.refl _) (.cons (.refl _) (.cons (.refl _) (.cons (.refl _) (.cons (.refl _) (.cons (.refl _) (.cons (.refl _) (.cons (.refl _) (.cons (.emp _) (.cons (.emp _) (.cons (.emp _) (.cons (.refl _) (.cons (.refl _) (.nil))))))))))))))))))))))))))))))))))))))))))))))))))))))))))))))))
end Go.Ab.Td
