/- A part of the proof: the texts TdWo. Under: nothing. -/
import Derived.Test.YtomfaadmmchdcaaDoorG44
import Derived.Test.YtomfaadmmchdcaaDoorG45
set_option linter.unusedVariables false
namespace Go.Ab.Td
set_option maxRecDepth 100000
set_option maxRecDepth 100000
open Go Go.Ab
variable {P:Program}
set_option linter.unusedSimpArgs false
set_option linter.unusedVariables false
attribute [local irreducible] g8
def c9e (d h z:PV):List PV:=match stV .nilFunc d h z with | .agg (_::l)=>l | _=>[]
set_option maxHeartbeats 4000000 in
theorem b7X (F:List (List PV)→List PV→Prop) (Inv:List (List PV)→Prop) (Ok:Nat→List PV→Own→PV→Prop) (cells ops j8:List (List PV)) (ho:∀ r ∈ ops,a4A r) (hd:∀ r ∈ j8,∃ D,r=[.int .u8 D]∧0≤D∧D<256)
 (h27:∃ H,(a4y H∧Inv H)∧Ok G4 [.agg [.sl 5 cells,.sl 5 ops,.sl 1 j8]] [] (.sl 7 H))
 (h8:∀ K A B N S H,0≤A∧A<256→0≤B∧B<256→ -2147483648≤N∧N≤2147483647→a4y H→Inv H→∃ r,(a2Y r∧F H r)∧Ok n5 [a1i K A B N S,.sl 7 H] [] (.agg r))
 (h28:∀ H n,a4y H→0≤n→Ok J8 [.sl 7 H,.int .i64 3,.int .i64 n] [] (.int .i64 (o0 H 3 n))):
 ∃ H rows D,(a4y H∧Inv H)∧(rows.length≤20∧∀ x ∈ rows,a2Y x∧F H x)∧c4T D H∧fnA wG Ok noX noT noT 0 V8 [.agg [.sl 5 cells,.sl 5 ops,.sl 1 j8]] 7 rows (c9e (.sl 7 D) (.sl 7 H) (.int .i64 1)):=by
 obtain ⟨H,⟨hH,hI⟩,h27⟩:=h27
 let n:=min ops.length 20
 let n2:=min j8.length 4
 obtain ⟨f,hf⟩:∃ f:Nat→List PV,∀ i row,ops[i]?=some row→(a2Y (f i)∧F H (f i))∧Ok n5 [.agg row,.sl 7 H] [] (.agg (f i)):=by
  have hnx:∀ i:Nat,∃ r:List PV,∀ row,ops[i]?=some row→(a2Y r∧F H r)∧Ok n5 [.agg row,.sl 7 H] [] (.agg r):=by
   intro i
   cases hr:ops[i]? with
   | none=>exact ⟨[],fun _ h=>by cases h⟩
   | some row=>
     obtain ⟨K,A,B,N,S,rfl,hA,hB,hN⟩:=ho row (List.mem_of_getElem? hr)
     obtain ⟨r,h1,h2⟩:=h8 K A B N S H hA hB hN hH hI
     exact ⟨r,fun _ e=>by cases e;exact ⟨h1,h2⟩⟩
  exact Classical.axiomOfChoice hnx
 let g:Nat→List PV:=fun j=>match j8[j]? with
  | some [.int _ D]=>Q4 (o0 H 3 (IntKind.i64.wrap D))
  | _=>Q4 0
 let vs:List (List PV):=(List.range n).map f
 let ds:Nat→List (List PV):=fun j=>[Q4 0,Q4 1]++(List.range j).map g
 have hds:∀ j,(ds j).length=j+2:=fun j=>by simp [ds]
 have hit:∀ x ∈ vs,a2Y x∧F H x:=by
  intro x hx
  obtain ⟨i,hi,rfl⟩:=List.mem_map.1 hx
  have hi':i<n:=List.mem_range.1 hi
  exact (hf i _ (List.getElem?_eq_getElem (by simp only [n] at hi';omega))).1
 refine ⟨H,vs,((ds n2).drop 0).take (n2+2),⟨hH,hI⟩,⟨by simp only [vs,List.length_map,List.length_range,n];omega,hit⟩,?_,?_⟩
 ·have hn:n2≤4:=by simp only [n2];omega
  have hlen:10≤H.length:=by
   obtain ⟨more,rfl,_⟩:=hH
   rw [List.length_append]
   exact Nat.le_add_right _ _
  have hb:∀ r ∈ ((ds n2).drop 0).take (n2+2),∃ (j:Nat) (row:List PV),r=Q4 (j:Int)∧H[j]?=some row∧kindOf row=3:=by
   intro r hr
   have hr:=List.mem_of_mem_take hr
   rw [List.drop_zero] at hr
   rcases List.mem_append.1 hr with h | h
   ·obtain ⟨more,e,_⟩:=id hH
    simp only [List.mem_cons,List.not_mem_nil,or_false] at h
    rcases h with rfl | rfl
    ·exact ⟨0,_,rfl,by rw [e];rfl,rfl⟩
    ·exact ⟨1,_,rfl,by rw [e];rfl,rfl⟩
   ·obtain ⟨j,hj,rfl⟩:=List.mem_map.1 h
    have hj':j<n2:=List.mem_range.1 hj
    have hjd:j8[j]?=some (j8[j]'(by simp only [n2] at hj';omega)):=List.getElem?_eq_getElem _
    obtain ⟨D,e,h0,h1⟩:=hd _ (List.mem_of_getElem? hjd)
    have hg:g j=Q4 (o0 H 3 (IntKind.i64.wrap D)):=by simp only [g,hjd,e]
    have hw:IntKind.i64.wrap D=D:=wrap_small (by omega) (by omega)
    have:=b9L hH (n:=IntKind.i64.wrap D) (by omega)
    rcases b0I (rows:=H) (kind:=3) (n:=IntKind.i64.wrap D) with h | ⟨k,row,h1,h2,h3⟩
    ·omega
    ·exact ⟨k,row,by rw [hg,h1],h2,h3⟩
  refine ⟨⟨by rw [List.drop_zero,List.length_take,hds];omega,by rw [List.length_take];omega,fun r hr=>?_⟩,⟨_,rfl⟩,hb⟩
  obtain ⟨j,row,h1,h2, -⟩:=hb r hr
  exact ⟨j,h1,by omega,by have:=(List.getElem?_eq_some_iff.1 h2).1;omega⟩
 ·conv=>whnf
  refine ⟨_,_,h27,?_⟩
  conv=>whnf
  intro X hX _
  have key:∀ (m i:Nat) (s:St),i+m=n→norm [1,2,3,4] s=sSt cells ops j8 H 4 (i:Int) i 2 [Q4 0,Q4 1] ((List.range i).map f)→X s:=by
   intro m
   induction m with
   | zero=>
     intro i s hi hs
     refine z8 hX s ?_
     rw [hs]
     obtain rfl:i=n:=by omega
     show aw wG Ok _ true _ _ (sSt cells ops j8 H 4 (n:Int) n 2 [Q4 0,Q4 1] vs)
     have hvl:vs.length=n:=by simp [vs]
     have hlt2:decide ((n:Int)<(ops.length:Int))=true→decide ((n:Int)<20)=false:=by simp only [n,decide_eq_true_eq,decide_eq_false_iff_not];omega
     clear hX hs
     generalize vs=L at hvl ⊢
     cases L with
     | nil=>
       cases hlt:decide ((n:Int)<(ops.length:Int)) with
       | true=>
         conv=>whnf
         rw [hlt]
         conv=>whnf
         refine F5 (hlt2 hlt) ?_
         conv=>whnf
         intro X2 hX2 _
         have key2:∀ (m j:Nat) (s:St),j+m=n2→norm [1,2,3,5] s=sSt cells ops j8 H 5 (j:Int) n (j+2) (ds j) []→X2 s:=by
          intro m
          induction m with
          | zero=>
            intro j s hj hs
            refine z8 hX2 s ?_
            obtain rfl:j=n2:=by omega
            have hl2:decide ((n2:Int)<(j8.length:Int))=true→decide ((n2:Int)<4)=false:=by simp only [n2,decide_eq_true_eq,decide_eq_false_iff_not];omega
            rw [hs]
            have hdl:=hds n2
            generalize ds n2=D at hdl ⊢
            cases hd2:decide ((n2:Int)<(j8.length:Int)) with
            | true=>
              conv=>whnf
              rw [hd2]
              conv=>whnf
              refine F5 (hl2 hd2) ?_
              conv=>whnf
              exact ⟨_,_,_,[3],rfl,⟨_,rfl,fun y hy=>by simpa using hy⟩,N8.refl _,.inr ⟨_,rfl,rfl⟩⟩
            | false=>
              conv=>whnf
              rw [hd2]
              conv=>whnf
              exact ⟨_,_,_,[3],rfl,⟨_,rfl,fun y hy=>by simpa using hy⟩,N8.refl _,.inr ⟨_,rfl,rfl⟩⟩
          | succ m ih=>
            intro j s hj hs
            refine z8 hX2 s ?_
            rw [hs]
            have hjn:j<j8.length∧j<4:=by simp only [n2] at hj;omega
            have hd2:decide ((j:Int)<(j8.length:Int))=true:=by simp;omega
            have h4:decide ((j:Int)<4)=true:=by simp;omega
            have hw:IntKind.i64.wrap ((j:Int)+1)=((j+1:Nat):Int):=by rw [wrap_small (by omega) (by omega)];omega
            obtain ⟨row,hrow⟩:∃ row,j8[j]?=some row:=⟨_,List.getElem?_eq_getElem (by omega)⟩
            obtain ⟨Dn,rfl,hD0,hD1⟩:=hd row (List.mem_of_getElem? hrow)
            have hrow':j8[(j:Int).toNat]?=some [.int .u8 Dn]:=by simpa using hrow
            have hwD:IntKind.i64.wrap Dn=Dn:=wrap_small (by omega) (by omega)
            have hcall:=h28 H (IntKind.i64.wrap Dn) hH (by omega)
            have hg:ds (j+1)=ds j++[Q4 (o0 H 3 (IntKind.i64.wrap Dn))]:=by simp [ds,List.range_succ,g,hrow]
            have hgo:∀ s',norm [1,2,3,5] s'=sSt cells ops j8 H 5 (IntKind.i64.wrap ((j:Int)+1)) n (j+2+1) (ds j++[Q4 (o0 H 3 (IntKind.i64.wrap Dn))]) []→X2 s':=fun s' h=>ih (j+1) s' (by omega) (by rw [h,hw,hg])
            have hdl:=hds j
            clear hs ih hg
            generalize ds j=D at hdl hgo ⊢
            generalize o0 H 3 (IntKind.i64.wrap Dn)=pk at hcall hgo
            conv=>whnf
            rw [hd2]
            conv=>whnf
            refine y7 h4 ?_
            conv=>whnf
            refine m0 (e9 (rows:=j8) (j:=(j:Int)) (by rfl) (by rfl) (by omega) hrow') ?_
            conv=>whnf
            refine ⟨_,_,hcall,?_⟩
            conv=>whnf
            refine m0 (N3 (L:=D) (c:=j+2) (xs:=[Q4 pk]) (by rfl) hdl (by rfl) (by rfl) (by simp;omega)) ?_
            conv=>whnf
            refine y7 (by kernel_rfl) ?_
            conv=>whnf
            exact hgo _ rfl
         exact key2 n2 0 _ (by omega) rfl
       | false=>
         conv=>whnf
         rw [hlt]
         conv=>whnf
         intro X2 hX2 _
         have key2:∀ (m j:Nat) (s:St),j+m=n2→norm [1,2,3,5] s=sSt cells ops j8 H 5 (j:Int) n (j+2) (ds j) []→X2 s:=by
          intro m
          induction m with
          | zero=>
            intro j s hj hs
            refine z8 hX2 s ?_
            obtain rfl:j=n2:=by omega
            have hl2:decide ((n2:Int)<(j8.length:Int))=true→decide ((n2:Int)<4)=false:=by simp only [n2,decide_eq_true_eq,decide_eq_false_iff_not];omega
            rw [hs]
            have hdl:=hds n2
            generalize ds n2=D at hdl ⊢
            cases hd2:decide ((n2:Int)<(j8.length:Int)) with
            | true=>
              conv=>whnf
              rw [hd2]
              conv=>whnf
              refine F5 (hl2 hd2) ?_
              conv=>whnf
              exact ⟨_,_,_,[3],rfl,⟨_,rfl,fun y hy=>by simpa using hy⟩,N8.refl _,.inr ⟨_,rfl,rfl⟩⟩
            | false=>
              conv=>whnf
              rw [hd2]
              conv=>whnf
              exact ⟨_,_,_,[3],rfl,⟨_,rfl,fun y hy=>by simpa using hy⟩,N8.refl _,.inr ⟨_,rfl,rfl⟩⟩
          | succ m ih=>
            intro j s hj hs
            refine z8 hX2 s ?_
            rw [hs]
            have hjn:j<j8.length∧j<4:=by simp only [n2] at hj;omega
            have hd2:decide ((j:Int)<(j8.length:Int))=true:=by simp;omega
            have h4:decide ((j:Int)<4)=true:=by simp;omega
            have hw:IntKind.i64.wrap ((j:Int)+1)=((j+1:Nat):Int):=by rw [wrap_small (by omega) (by omega)];omega
            obtain ⟨row,hrow⟩:∃ row,j8[j]?=some row:=⟨_,List.getElem?_eq_getElem (by omega)⟩
            obtain ⟨Dn,rfl,hD0,hD1⟩:=hd row (List.mem_of_getElem? hrow)
            have hrow':j8[(j:Int).toNat]?=some [.int .u8 Dn]:=by simpa using hrow
            have hwD:IntKind.i64.wrap Dn=Dn:=wrap_small (by omega) (by omega)
            have hcall:=h28 H (IntKind.i64.wrap Dn) hH (by omega)
            have hg:ds (j+1)=ds j++[Q4 (o0 H 3 (IntKind.i64.wrap Dn))]:=by simp [ds,List.range_succ,g,hrow]
            have hgo:∀ s',norm [1,2,3,5] s'=sSt cells ops j8 H 5 (IntKind.i64.wrap ((j:Int)+1)) n (j+2+1) (ds j++[Q4 (o0 H 3 (IntKind.i64.wrap Dn))]) []→X2 s':=fun s' h=>ih (j+1) s' (by omega) (by rw [h,hw,hg])
            have hdl:=hds j
            clear hs ih hg
            generalize ds j=D at hdl hgo ⊢
            generalize o0 H 3 (IntKind.i64.wrap Dn)=pk at hcall hgo
            conv=>whnf
            rw [hd2]
            conv=>whnf
            refine y7 h4 ?_
            conv=>whnf
            refine m0 (e9 (rows:=j8) (j:=(j:Int)) (by rfl) (by rfl) (by omega) hrow') ?_
            conv=>whnf
            refine ⟨_,_,hcall,?_⟩
            conv=>whnf
            refine m0 (N3 (L:=D) (c:=j+2) (xs:=[Q4 pk]) (by rfl) hdl (by rfl) (by rfl) (by simp;omega)) ?_
            conv=>whnf
            refine y7 (by kernel_rfl) ?_
            conv=>whnf
            exact hgo _ rfl
         exact key2 n2 0 _ (by omega) rfl
     | cons x L=>
       cases hlt:decide ((n:Int)<(ops.length:Int)) with
       | true=>
         conv=>whnf
         rw [hlt]
         conv=>whnf
         refine F5 (hlt2 hlt) ?_
         conv=>whnf
         intro X2 hX2 _
         have key2:∀ (m j:Nat) (s:St),j+m=n2→norm [1,2,3,5] s=sSt cells ops j8 H 5 (j:Int) n (j+2) (ds j) (x::L)→X2 s:=by
          intro m
          induction m with
          | zero=>
            intro j s hj hs
            refine z8 hX2 s ?_
            obtain rfl:j=n2:=by omega
            have hl2:decide ((n2:Int)<(j8.length:Int))=true→decide ((n2:Int)<4)=false:=by simp only [n2,decide_eq_true_eq,decide_eq_false_iff_not];omega
            rw [hs]
            have hdl:=hds n2
            generalize ds n2=D at hdl ⊢
            cases hd2:decide ((n2:Int)<(j8.length:Int)) with
            | true=>
              conv=>whnf
              rw [hd2]
              conv=>whnf
              refine F5 (hl2 hd2) ?_
              conv=>whnf
              exact ⟨_,_,_,[4],rfl,⟨_,rfl,fun y hy=>by simpa using hy⟩,N8.refl _,.inl ⟨3,[],by rw [hvl],rfl,by simp,by decide⟩⟩
            | false=>
              conv=>whnf
              rw [hd2]
              conv=>whnf
              exact ⟨_,_,_,[4],rfl,⟨_,rfl,fun y hy=>by simpa using hy⟩,N8.refl _,.inl ⟨3,[],by rw [hvl],rfl,by simp,by decide⟩⟩
          | succ m ih=>
            intro j s hj hs
            refine z8 hX2 s ?_
            rw [hs]
            have hjn:j<j8.length∧j<4:=by simp only [n2] at hj;omega
            have hd2:decide ((j:Int)<(j8.length:Int))=true:=by simp;omega
            have h4:decide ((j:Int)<4)=true:=by simp;omega
            have hw:IntKind.i64.wrap ((j:Int)+1)=((j+1:Nat):Int):=by rw [wrap_small (by omega) (by omega)];omega
            obtain ⟨row,hrow⟩:∃ row,j8[j]?=some row:=⟨_,List.getElem?_eq_getElem (by omega)⟩
            obtain ⟨Dn,rfl,hD0,hD1⟩:=hd row (List.mem_of_getElem? hrow)
            have hrow':j8[(j:Int).toNat]?=some [.int .u8 Dn]:=by simpa using hrow
            have hwD:IntKind.i64.wrap Dn=Dn:=wrap_small (by omega) (by omega)
            have hcall:=h28 H (IntKind.i64.wrap Dn) hH (by omega)
            have hg:ds (j+1)=ds j++[Q4 (o0 H 3 (IntKind.i64.wrap Dn))]:=by simp [ds,List.range_succ,g,hrow]
            have hgo:∀ s',norm [1,2,3,5] s'=sSt cells ops j8 H 5 (IntKind.i64.wrap ((j:Int)+1)) n (j+2+1) (ds j++[Q4 (o0 H 3 (IntKind.i64.wrap Dn))]) (x::L)→X2 s':=fun s' h=>ih (j+1) s' (by omega) (by rw [h,hw,hg])
            have hdl:=hds j
            clear hs ih hg
            generalize ds j=D at hdl hgo ⊢
            generalize o0 H 3 (IntKind.i64.wrap Dn)=pk at hcall hgo
            conv=>whnf
            rw [hd2]
            conv=>whnf
            refine y7 h4 ?_
            conv=>whnf
            refine m0 (e9 (rows:=j8) (j:=(j:Int)) (by rfl) (by rfl) (by omega) hrow') ?_
            conv=>whnf
            refine ⟨_,_,hcall,?_⟩
            conv=>whnf
            refine m0 (N3 (L:=D) (c:=j+2) (xs:=[Q4 pk]) (by rfl) hdl (by rfl) (by rfl) (by simp;omega)) ?_
            conv=>whnf
            refine y7 (by kernel_rfl) ?_
            conv=>whnf
            exact hgo _ rfl
         exact key2 n2 0 _ (by omega) rfl
       | false=>
         conv=>whnf
         rw [hlt]
         conv=>whnf
         intro X2 hX2 _
         have key2:∀ (m j:Nat) (s:St),j+m=n2→norm [1,2,3,5] s=sSt cells ops j8 H 5 (j:Int) n (j+2) (ds j) (x::L)→X2 s:=by
          intro m
          induction m with
          | zero=>
            intro j s hj hs
            refine z8 hX2 s ?_
            obtain rfl:j=n2:=by omega
            have hl2:decide ((n2:Int)<(j8.length:Int))=true→decide ((n2:Int)<4)=false:=by simp only [n2,decide_eq_true_eq,decide_eq_false_iff_not];omega
            rw [hs]
            have hdl:=hds n2
            generalize ds n2=D at hdl ⊢
            cases hd2:decide ((n2:Int)<(j8.length:Int)) with
            | true=>
              conv=>whnf
              rw [hd2]
              conv=>whnf
              refine F5 (hl2 hd2) ?_
              conv=>whnf
              exact ⟨_,_,_,[4],rfl,⟨_,rfl,fun y hy=>by simpa using hy⟩,N8.refl _,.inl ⟨3,[],by rw [hvl],rfl,by simp,by decide⟩⟩
            | false=>
              conv=>whnf
              rw [hd2]
              conv=>whnf
              exact ⟨_,_,_,[4],rfl,⟨_,rfl,fun y hy=>by simpa using hy⟩,N8.refl _,.inl ⟨3,[],by rw [hvl],rfl,by simp,by decide⟩⟩
          | succ m ih=>
            intro j s hj hs
            refine z8 hX2 s ?_
            rw [hs]
            have hjn:j<j8.length∧j<4:=by simp only [n2] at hj;omega
            have hd2:decide ((j:Int)<(j8.length:Int))=true:=by simp;omega
            have h4:decide ((j:Int)<4)=true:=by simp;omega
            have hw:IntKind.i64.wrap ((j:Int)+1)=((j+1:Nat):Int):=by rw [wrap_small (by omega) (by omega)];omega
            obtain ⟨row,hrow⟩:∃ row,j8[j]?=some row:=⟨_,List.getElem?_eq_getElem (by omega)⟩
            obtain ⟨Dn,rfl,hD0,hD1⟩:=hd row (List.mem_of_getElem? hrow)
            have hrow':j8[(j:Int).toNat]?=some [.int .u8 Dn]:=by simpa using hrow
            have hwD:IntKind.i64.wrap Dn=Dn:=wrap_small (by omega) (by omega)
            have hcall:=h28 H (IntKind.i64.wrap Dn) hH (by omega)
            have hg:ds (j+1)=ds j++[Q4 (o0 H 3 (IntKind.i64.wrap Dn))]:=by simp [ds,List.range_succ,g,hrow]
            have hgo:∀ s',norm [1,2,3,5] s'=sSt cells ops j8 H 5 (IntKind.i64.wrap ((j:Int)+1)) n (j+2+1) (ds j++[Q4 (o0 H 3 (IntKind.i64.wrap Dn))]) (x::L)→X2 s':=fun s' h=>ih (j+1) s' (by omega) (by rw [h,hw,hg])
            have hdl:=hds j
            clear hs ih hg
            generalize ds j=D at hdl hgo ⊢
            generalize o0 H 3 (IntKind.i64.wrap Dn)=pk at hcall hgo
            conv=>whnf
            rw [hd2]
            conv=>whnf
            refine y7 h4 ?_
            conv=>whnf
            refine m0 (e9 (rows:=j8) (j:=(j:Int)) (by rfl) (by rfl) (by omega) hrow') ?_
            conv=>whnf
            refine ⟨_,_,hcall,?_⟩
            conv=>whnf
            refine m0 (N3 (L:=D) (c:=j+2) (xs:=[Q4 pk]) (by rfl) hdl (by rfl) (by rfl) (by simp;omega)) ?_
            conv=>whnf
            refine y7 (by kernel_rfl) ?_
            conv=>whnf
            exact hgo _ rfl
         exact key2 n2 0 _ (by omega) rfl
   | succ m ih=>
     intro i s hi hs
     refine z8 hX s ?_
     rw [hs]
     have hin:i<ops.length∧i<20:=by simp only [n] at hi;omega
     have hlt:decide ((i:Int)<(ops.length:Int))=true:=by simp;omega
     have h20:decide ((i:Int)<20)=true:=by simp;omega
     have hw:IntKind.i64.wrap ((i:Int)+1)=((i+1:Nat):Int):=by rw [wrap_small (by omega) (by omega)];omega
     obtain ⟨row,hrow⟩:∃ row,ops[i]?=some row:=⟨_,List.getElem?_eq_getElem (by omega)⟩
     obtain ⟨⟨⟨q1,q2,q3,q4,q5,q6,q7,hqn,hfi⟩,_⟩,hp⟩:=hf i row hrow
     obtain ⟨K,A,B,N,S,rfl,hA,hB⟩:=ho row (List.mem_of_getElem? hrow)
     have hrow':ops[(i:Int).toNat]?=some [.int .u8 K,.int .u8 A,.int .u8 B,.int .i32 N,.str S]:=by simpa using hrow
     have hnext:(List.range (i+1)).map f=(List.range i).map f++[f i]:=by simp [List.range_succ]
     have hgo:∀ s',norm [1,2,3,4] s'=sSt cells ops j8 H 4 (IntKind.i64.wrap ((i:Int)+1)) (i+1) 2 [Q4 0,Q4 1] ((List.range i).map f++[f i])→X s':=fun s' h=>ih (i+1) s' (by omega) (by rw [h,hw,hnext])
     have hlen:((List.range i).map f).length=i:=by simp
     clear hnext ih hs
     rw [hfi] at hgo hp
     generalize (List.range i).map f=L at hgo hlen ⊢
     cases L with
     | nil=>
       conv=>whnf
       rw [hlt]
       conv=>whnf
       refine y7 h20 ?_
       conv=>whnf
       refine m0 (e9 (rows:=ops) (j:=(i:Int)) (by rfl) (by rfl) (by omega) hrow') ?_
       conv=>whnf
       refine ⟨_,_,hp,?_⟩
       conv=>whnf
       refine y7 (by kernel_rfl) ?_
       conv=>whnf
       simp only [List.length_nil] at hlen
       subst hlen
       exact hgo _ rfl
     | cons x L=>
       conv=>whnf
       rw [hlt]
       conv=>whnf
       refine y7 h20 ?_
       conv=>whnf
       refine m0 (e9 (rows:=ops) (j:=(i:Int)) (by rfl) (by rfl) (by omega) hrow') ?_
       conv=>whnf
       refine ⟨_,_,hp,?_⟩
       conv=>whnf
       refine m0 (N3 (L:=x::L) (c:=i) (xs:=[[.int .i64 q1,.bool q2,.int .i64 q3,.str q4,.int .i64 q5,.int .i64 q6,.int .i64 q7]]) (by rfl) hlen (by rfl) (by rfl) (by simp;omega)) ?_
       conv=>whnf
       refine y7 (by kernel_rfl) ?_
       conv=>whnf
       exact hgo _ rfl
  exact key n 0 _ (by omega) rfl
set_option maxHeartbeats 2000000 in
theorem b7y (C:Laid P) (cells ops j8:List (List PV)) (hc:∀ r ∈ cells,a4A r) (ho:∀ r ∈ ops,a4A r) (hd:∀ r ∈ j8,∃ D,r=[.int .u8 D]∧0≤D∧D<256):
 ∃ s,(c0H s∧a2r s.heap∧(∀ o ∈ s.ops,o.kind≠12)∧(∀ o ∈ s.ops,fits s.heap o)∧(∀ o ∈ s.j8,fits s.heap o)∧∃ d,s.j8=dO 0::dO 1::d)∧l8 P G F1 [.agg [.sl 5 cells,.sl 5 ops,.sl 1 j8]] [(0,0)] (aS s):=by
 obtain ⟨H,rows,D,⟨hH,hI⟩,⟨hm,hO⟩,hD,h4⟩:=b7X (fun H r=>∃ o:Ob,r=i4 o∧(o.kind≠12∧fits (hOf H) o)) (fun H=>∃ h,LeR H (h.map j6)∧H.length=h.length∧a2r h) (l8 P G) cells ops j8 ho hd (b7x C cells ops j8 hc) (fun K A B N S H a b n hH hI=>by
  obtain ⟨e,hl,tv⟩:=b6b hI
  generalize hh:hOf H=h at e hl tv
  obtain ⟨r,⟨f,fr⟩,h2⟩:=b6m C tv.1 e K A B N S a b n
  exact ⟨_,⟨b4M (h:=h) ⟨_,rfl,a8T tv.1 K A B N a b n,c1t h K A B N a n⟩,_,rfl,c3d h K A B N,a8T tv.1 K A B N a b n⟩,a6X (a0R C h tv.1.small K A B N S a b n) (.cons (.refl _) (.cons (c1j e) .nil))⟩) (fun H n hH hn=>c1i C H hH.all.1 hH.all.2 3 n hn)
 obtain ⟨e1,hn0,htv⟩:=b6b hI
 generalize hh:hOf H=t at e1 hn0 htv
 have h:=b9J C.mixed (a7d C) (fun _ _ h=>by cases h) (fun _ _ h=>by cases h) (fun _ _ h=>by cases h) rfl h4
 have hn:t.length=H.length:=hn0.symm
 have ht:=htv.1
 obtain ⟨lo,rfl,hob⟩:=c4M fun x hx=>(hO x hx).1
 have hlk:=c6R (fun x hx=>(hO x hx).2) lo rfl
 have hDt:∀ {rr:List (List PV)},(∀ r ∈ rr,∃ j:Int,r=Q4 j∧0≤j∧j<H.length)→∃ l:List Ob,rr=l.map i4∧∀ o ∈ l,∃ j:Int,o=dO j∧0≤j∧j<H.length:=by
  intro rr
  induction rr with
  | nil=>exact fun _=>⟨[],rfl,by simp⟩
  | cons r rr ih=>
    intro hx
    obtain ⟨j,rfl,hj⟩:=hx r (by simp)
    obtain ⟨l,rfl,hl⟩:=ih fun y hy=>hx y (by simp [hy])
    refine ⟨dO j::l,rfl,?_⟩
    intro y hy
    rcases List.mem_cons.1 hy with rfl | hy
    ·exact ⟨j,rfl,hj⟩
    ·exact hl y hy
 obtain ⟨⟨d1,d2,d3⟩,⟨dr,hdr⟩,dk⟩:=hD
 obtain ⟨ld,rfl,hld⟩:=hDt d3
 have hdl:∀ o ∈ ld,fits t o:=by
  intro o ho
  obtain ⟨j,row,h1,h2,h3⟩:=dk (i4 o) (List.mem_map_of_mem ho)
  have eo:o=dO (j:Int):=a8P h1
  have hj:=(List.getElem?_eq_some_iff.1 h2).1
  subst eo
  exact b9p e1 h2 h3 (by have:=ht.len;omega)
 obtain ⟨ld2,hld2⟩:=c0u hdr
 refine ⟨mkS lo ld t,⟨⟨lo,ld,t,rfl,ht,by simpa using hm,hob,by simpa using d1,by simpa using d2,by rw [hn];exact hld⟩,htv,fun o ho=>(hlk o ho).1,fun o ho=>by have q:=(hlk o ho).2;rw [hh] at q;exact q,hdl,ld2,hld2⟩,c3e h ?_⟩
 refine .cons (.refl _) (.cons (c1j e1) ?_)
 exact .cons (.emp _) (.cons (.refl _) (.cons (.refl _) (.cons (.refl _) (.cons (.refl _) (.cons (.refl _) (.cons (.refl _) (.cons (.refl _) (.cons (.emp _) (.cons (.refl _) (.cons (.refl _) (.cons (.refl _) (.cons (.refl _) (.cons (.refl _) (.cons (.refl _) (.cons (.refl _) (.cons (.refl _) (.cons (.refl _) (.cons (.refl _) (.cons (.refl _) (.cons (.refl _) (.cons (.refl _) (.cons (.refl _) (.cons (.refl _) (.cons (.refl _) (.cons (.refl _) (.cons (.refl _) (.cons (.refl _) (.cons (.refl _) (.cons (.refl _) (.cons (.refl _) (.cons (.emp _) (.cons (.refl _) (.cons (.refl _) (.cons (.refl _) (.cons (.refl _) (.cons (.refl _) (.cons (.refl _) (.cons (.refl _) (.cons (.refl _) (.cons (.emp _) (.cons (.refl _) (.cons (.refl _) (.cons (.emp _) (.cons (.refl _) (.cons (.refl _) (.cons (.refl _) (.cons (.refl _) (.cons (.refl _) (.cons (.refl _) (.cons (.refl _) (.cons (.refl _) (.cons (.refl _) (.cons (.refl _) (.cons (.refl _) (.cons (.refl _) (.cons (.refl _) (.cons (.refl _) (.cons (.refl _) (.cons (.emp _) (.cons (.emp _) (.cons (.emp _) (.cons (.refl _) (.cons (.refl _) (.nil))))))))))))))))))))))))))))))))))))))))))))))))))))))))))))))))
end Go.Ab.Td
