/- A part of the proof: the texts TdVs. Under: nothing. -/
import Derived.Test.YtngmifmcohmfmaaDoorG32
set_option linter.unusedVariables false
namespace Go.Ab.Td
set_option maxRecDepth 100000
set_option maxRecDepth 100000
open Go Go.Ab
variable {P:Program}
attribute [local irreducible] j6
set_option maxHeartbeats 4000000 in
theorem b5Q (Inv:List (List PV)→Prop) (Ok:Nat→List PV→Own→PV→Prop) (cells ops k8:List (List PV)) (ho:∀ r ∈ ops,b6f r) (hd:∀ r ∈ k8,∃ D,r=[.int .u8 D]∧0≤D∧D<256)
 (h27:∃ H,(a3W H∧Inv H)∧Ok F7 [.agg [.sl 5 cells,.sl 5 ops,.sl 1 k8]] [] (.sl 7 H))
 (h8:∀ K A B N S H,0≤A∧A<256→0≤B∧B<256→a3W H→∃ r,O7 r∧Ok i7 [F0 K A B N S,.sl 7 H] [] (.agg r))
 (h28:∀ H n,a3W H→0≤n→Ok J0 [.sl 7 H,.int .i64 3,.int .i64 n] [] (.int .i64 (n8 H 3 n))):
 ∃ H O D,(a3W H∧Inv H)∧(∃ m,m≤20∧SlR O m)∧c2R D H∧fnW wG Ok noX noT noT 0 U1 [.agg [.sl 5 cells,.sl 5 ops,.sl 1 k8]] (stV O (.sl 7 D) (.sl 7 H) (.int .i64 1)):=by
 obtain ⟨H,⟨hH,hI⟩,h27⟩:=h27
 let n:=min ops.length 20
 let n2:=min k8.length 4
 obtain ⟨f,hf⟩:∃ f:Nat→List PV,∀ i row,ops[i]?=some row→O7 (f i)∧Ok i7 [.agg row,.sl 7 H] [] (.agg (f i)):=by
  have hnx:∀ i:Nat,∃ r:List PV,∀ row,ops[i]?=some row→O7 r∧Ok i7 [.agg row,.sl 7 H] [] (.agg r):=by
   intro i
   cases hr:ops[i]? with
   | none=>exact ⟨[],fun _ h=>by cases h⟩
   | some row=>
     obtain ⟨K,A,B,N,S,rfl,hA,hB⟩:=ho row (List.mem_of_getElem? hr)
     obtain ⟨r,h1,h2⟩:=h8 K A B N S H hA hB hH
     exact ⟨r,fun _ e=>by cases e;exact ⟨h1,h2⟩⟩
  exact Classical.axiomOfChoice hnx
 let g:Nat→List PV:=fun j=>match k8[j]? with
  | some [.int _ D]=>X8 (n8 H 3 (IntKind.i64.wrap D))
  | _=>X8 0
 let vs:List (List PV):=(List.range n).map f
 let ds:Nat→List (List PV):=fun j=>[X8 0,X8 1]++(List.range j).map g
 have hds:∀ j,(ds j).length=j+2:=fun j=>by simp [ds]
 refine ⟨H,match vs with | []=>.emp 7 | x::L=>.sl 7 (((x::L).drop 0).take n),((ds n2).drop 0).take (n2+2),⟨hH,hI⟩,?_,?_,?_⟩
 ·have hit:∀ x ∈ vs,O7 x:=by
   intro x hx
   obtain ⟨i,hi,rfl⟩:=List.mem_map.1 hx
   have hi':i<n:=List.mem_range.1 hi
   exact (hf i _ (List.getElem?_eq_getElem (by simp only [n] at hi';omega))).1
  have hil:vs.length=n:=by simp [vs]
  have hn:n≤20:=by simp only [n];omega
  refine ⟨n,hn,?_⟩
  revert hit hil
  generalize vs=L
  intro hit hil
  cases L with
  | nil=>exact .inl ⟨rfl,by simpa using hil.symm⟩
  | cons x L=>
    refine .inr ⟨_,rfl,?_,by omega,?_⟩
    ·simp only [List.drop_zero,List.length_take];omega
    ·intro y hy
     exact hit y (List.mem_of_mem_take (by simpa using hy))
 ·have hn:n2≤4:=by simp only [n2];omega
  have hlen:10≤H.length:=by
   obtain ⟨more,rfl,_⟩:=hH
   rw [List.length_append]
   exact Nat.le_add_right _ _
  refine ⟨by rw [List.drop_zero,List.length_take,hds];omega,by rw [List.length_take];omega,?_⟩
  intro r hr
  have hr:=List.mem_of_mem_take hr
  rw [List.drop_zero] at hr
  rcases List.mem_append.1 hr with h | h
  ·simp only [List.mem_cons,List.not_mem_nil,or_false] at h
   rcases h with rfl | rfl
   ·exact ⟨0,rfl,by omega,by omega⟩
   ·exact ⟨1,rfl,by omega,by omega⟩
  ·obtain ⟨j,hj,rfl⟩:=List.mem_map.1 h
   have hj':j<n2:=List.mem_range.1 hj
   have hjd:k8[j]?=some (k8[j]'(by simp only [n2] at hj';omega)):=List.getElem?_eq_getElem _
   obtain ⟨D,e,h0,h1⟩:=hd _ (List.mem_of_getElem? hjd)
   have hg:g j=X8 (n8 H 3 (IntKind.i64.wrap D)):=by simp only [g,hjd,e]
   have hw:IntKind.i64.wrap D=D:=wrap_small (by omega) (by omega)
   have:=b7D hH (n:=IntKind.i64.wrap D) (by omega)
   exact ⟨_,hg,this.1,this.2⟩
 ·conv=>whnf
  refine ⟨_,_,h27,?_⟩
  conv=>whnf
  intro X hX _
  have key:∀ (m i:Nat) (s:St),i+m=n→norm [1,2,3,4] s=sSt cells ops k8 H 4 (i:Int) i 2 [X8 0,X8 1] ((List.range i).map f)→X s:=by
   intro m
   induction m with
   | zero=>
     intro i s hi hs
     refine y9 hX s ?_
     rw [hs]
     obtain rfl:i=n:=by omega
     show aw wG Ok _ true _ _ (sSt cells ops k8 H 4 (n:Int) n 2 [X8 0,X8 1] vs)
     have hvl:vs.length=n:=by simp [vs]
     have hlt2:decide ((n:Int)<(ops.length:Int))=true→decide ((n:Int)<20)=false:=by simp only [n,decide_eq_true_eq,decide_eq_false_iff_not];omega
     clear hX hs
     generalize vs=L at hvl ⊢
     cases L with
     | nil=>
       cases hlt:decide ((n:Int)<(ops.length:Int)) with
       | true=>
         conv=>whnf
         rw [hlt]
         conv=>whnf
         refine d8 (hlt2 hlt) ?_
         conv=>whnf
         intro X2 hX2 _
         have key2:∀ (m j:Nat) (s:St),j+m=n2→norm [1,2,3,5] s=sSt cells ops k8 H 5 (j:Int) n (j+2) (ds j) []→X2 s:=by
          intro m
          induction m with
          | zero=>
            intro j s hj hs
            refine y9 hX2 s ?_
            obtain rfl:j=n2:=by omega
            have hl2:decide ((n2:Int)<(k8.length:Int))=true→decide ((n2:Int)<4)=false:=by simp only [n2,decide_eq_true_eq,decide_eq_false_iff_not];omega
            rw [hs]
            have hdl:=hds n2
            generalize ds n2=D at hdl ⊢
            cases hd2:decide ((n2:Int)<(k8.length:Int)) with
            | true=>
              conv=>whnf
              rw [hd2]
              conv=>whnf
              refine d8 (hl2 hd2) ?_
              conv=>whnf
              rfl
            | false=>
              conv=>whnf
              rw [hd2]
              conv=>whnf
              rfl
          | succ m ih=>
            intro j s hj hs
            refine y9 hX2 s ?_
            rw [hs]
            have hjn:j<k8.length∧j<4:=by simp only [n2] at hj;omega
            have hd2:decide ((j:Int)<(k8.length:Int))=true:=by simp;omega
            have h4:decide ((j:Int)<4)=true:=by simp;omega
            have hw:IntKind.i64.wrap ((j:Int)+1)=((j+1:Nat):Int):=by rw [wrap_small (by omega) (by omega)];omega
            obtain ⟨row,hrow⟩:∃ row,k8[j]?=some row:=⟨_,List.getElem?_eq_getElem (by omega)⟩
            obtain ⟨Dn,rfl,hD0,hD1⟩:=hd row (List.mem_of_getElem? hrow)
            have hrow':k8[(j:Int).toNat]?=some [.int .u8 Dn]:=by simpa using hrow
            have hwD:IntKind.i64.wrap Dn=Dn:=wrap_small (by omega) (by omega)
            have hcall:=h28 H (IntKind.i64.wrap Dn) hH (by omega)
            have hg:ds (j+1)=ds j++[X8 (n8 H 3 (IntKind.i64.wrap Dn))]:=by simp [ds,List.range_succ,g,hrow]
            have hgo:∀ s',norm [1,2,3,5] s'=sSt cells ops k8 H 5 (IntKind.i64.wrap ((j:Int)+1)) n (j+2+1) (ds j++[X8 (n8 H 3 (IntKind.i64.wrap Dn))]) []→X2 s':=fun s' h=>ih (j+1) s' (by omega) (by rw [h,hw,hg])
            have hdl:=hds j
            clear hs ih hg
            generalize ds j=D at hdl hgo ⊢
            generalize n8 H 3 (IntKind.i64.wrap Dn)=pk at hcall hgo
            conv=>whnf
            rw [hd2]
            conv=>whnf
            refine l8 h4 ?_
            conv=>whnf
            refine g9 (i4 (rows:=k8) (j:=(j:Int)) (by rfl) (by rfl) (by omega) hrow') ?_
            conv=>whnf
            refine ⟨_,_,hcall,?_⟩
            conv=>whnf
            refine g9 (M0 (L:=D) (c:=j+2) (xs:=[X8 pk]) (by rfl) hdl (by rfl) (by rfl) (by simp;omega)) ?_
            conv=>whnf
            refine l8 (by kernel_rfl) ?_
            conv=>whnf
            exact hgo _ rfl
         exact key2 n2 0 _ (by omega) rfl
       | false=>
         conv=>whnf
         rw [hlt]
         conv=>whnf
         intro X2 hX2 _
         have key2:∀ (m j:Nat) (s:St),j+m=n2→norm [1,2,3,5] s=sSt cells ops k8 H 5 (j:Int) n (j+2) (ds j) []→X2 s:=by
          intro m
          induction m with
          | zero=>
            intro j s hj hs
            refine y9 hX2 s ?_
            obtain rfl:j=n2:=by omega
            have hl2:decide ((n2:Int)<(k8.length:Int))=true→decide ((n2:Int)<4)=false:=by simp only [n2,decide_eq_true_eq,decide_eq_false_iff_not];omega
            rw [hs]
            have hdl:=hds n2
            generalize ds n2=D at hdl ⊢
            cases hd2:decide ((n2:Int)<(k8.length:Int)) with
            | true=>
              conv=>whnf
              rw [hd2]
              conv=>whnf
              refine d8 (hl2 hd2) ?_
              conv=>whnf
              rfl
            | false=>
              conv=>whnf
              rw [hd2]
              conv=>whnf
              rfl
          | succ m ih=>
            intro j s hj hs
            refine y9 hX2 s ?_
            rw [hs]
            have hjn:j<k8.length∧j<4:=by simp only [n2] at hj;omega
            have hd2:decide ((j:Int)<(k8.length:Int))=true:=by simp;omega
            have h4:decide ((j:Int)<4)=true:=by simp;omega
            have hw:IntKind.i64.wrap ((j:Int)+1)=((j+1:Nat):Int):=by rw [wrap_small (by omega) (by omega)];omega
            obtain ⟨row,hrow⟩:∃ row,k8[j]?=some row:=⟨_,List.getElem?_eq_getElem (by omega)⟩
            obtain ⟨Dn,rfl,hD0,hD1⟩:=hd row (List.mem_of_getElem? hrow)
            have hrow':k8[(j:Int).toNat]?=some [.int .u8 Dn]:=by simpa using hrow
            have hwD:IntKind.i64.wrap Dn=Dn:=wrap_small (by omega) (by omega)
            have hcall:=h28 H (IntKind.i64.wrap Dn) hH (by omega)
            have hg:ds (j+1)=ds j++[X8 (n8 H 3 (IntKind.i64.wrap Dn))]:=by simp [ds,List.range_succ,g,hrow]
            have hgo:∀ s',norm [1,2,3,5] s'=sSt cells ops k8 H 5 (IntKind.i64.wrap ((j:Int)+1)) n (j+2+1) (ds j++[X8 (n8 H 3 (IntKind.i64.wrap Dn))]) []→X2 s':=fun s' h=>ih (j+1) s' (by omega) (by rw [h,hw,hg])
            have hdl:=hds j
            clear hs ih hg
            generalize ds j=D at hdl hgo ⊢
            generalize n8 H 3 (IntKind.i64.wrap Dn)=pk at hcall hgo
            conv=>whnf
            rw [hd2]
            conv=>whnf
            refine l8 h4 ?_
            conv=>whnf
            refine g9 (i4 (rows:=k8) (j:=(j:Int)) (by rfl) (by rfl) (by omega) hrow') ?_
            conv=>whnf
            refine ⟨_,_,hcall,?_⟩
            conv=>whnf
            refine g9 (M0 (L:=D) (c:=j+2) (xs:=[X8 pk]) (by rfl) hdl (by rfl) (by rfl) (by simp;omega)) ?_
            conv=>whnf
            refine l8 (by kernel_rfl) ?_
            conv=>whnf
            exact hgo _ rfl
         exact key2 n2 0 _ (by omega) rfl
     | cons x L=>
       cases hlt:decide ((n:Int)<(ops.length:Int)) with
       | true=>
         conv=>whnf
         rw [hlt]
         conv=>whnf
         refine d8 (hlt2 hlt) ?_
         conv=>whnf
         intro X2 hX2 _
         have key2:∀ (m j:Nat) (s:St),j+m=n2→norm [1,2,3,5] s=sSt cells ops k8 H 5 (j:Int) n (j+2) (ds j) (x::L)→X2 s:=by
          intro m
          induction m with
          | zero=>
            intro j s hj hs
            refine y9 hX2 s ?_
            obtain rfl:j=n2:=by omega
            have hl2:decide ((n2:Int)<(k8.length:Int))=true→decide ((n2:Int)<4)=false:=by simp only [n2,decide_eq_true_eq,decide_eq_false_iff_not];omega
            rw [hs]
            have hdl:=hds n2
            generalize ds n2=D at hdl ⊢
            cases hd2:decide ((n2:Int)<(k8.length:Int)) with
            | true=>
              conv=>whnf
              rw [hd2]
              conv=>whnf
              refine d8 (hl2 hd2) ?_
              conv=>whnf
              rfl
            | false=>
              conv=>whnf
              rw [hd2]
              conv=>whnf
              rfl
          | succ m ih=>
            intro j s hj hs
            refine y9 hX2 s ?_
            rw [hs]
            have hjn:j<k8.length∧j<4:=by simp only [n2] at hj;omega
            have hd2:decide ((j:Int)<(k8.length:Int))=true:=by simp;omega
            have h4:decide ((j:Int)<4)=true:=by simp;omega
            have hw:IntKind.i64.wrap ((j:Int)+1)=((j+1:Nat):Int):=by rw [wrap_small (by omega) (by omega)];omega
            obtain ⟨row,hrow⟩:∃ row,k8[j]?=some row:=⟨_,List.getElem?_eq_getElem (by omega)⟩
            obtain ⟨Dn,rfl,hD0,hD1⟩:=hd row (List.mem_of_getElem? hrow)
            have hrow':k8[(j:Int).toNat]?=some [.int .u8 Dn]:=by simpa using hrow
            have hwD:IntKind.i64.wrap Dn=Dn:=wrap_small (by omega) (by omega)
            have hcall:=h28 H (IntKind.i64.wrap Dn) hH (by omega)
            have hg:ds (j+1)=ds j++[X8 (n8 H 3 (IntKind.i64.wrap Dn))]:=by simp [ds,List.range_succ,g,hrow]
            have hgo:∀ s',norm [1,2,3,5] s'=sSt cells ops k8 H 5 (IntKind.i64.wrap ((j:Int)+1)) n (j+2+1) (ds j++[X8 (n8 H 3 (IntKind.i64.wrap Dn))]) (x::L)→X2 s':=fun s' h=>ih (j+1) s' (by omega) (by rw [h,hw,hg])
            have hdl:=hds j
            clear hs ih hg
            generalize ds j=D at hdl hgo ⊢
            generalize n8 H 3 (IntKind.i64.wrap Dn)=pk at hcall hgo
            conv=>whnf
            rw [hd2]
            conv=>whnf
            refine l8 h4 ?_
            conv=>whnf
            refine g9 (i4 (rows:=k8) (j:=(j:Int)) (by rfl) (by rfl) (by omega) hrow') ?_
            conv=>whnf
            refine ⟨_,_,hcall,?_⟩
            conv=>whnf
            refine g9 (M0 (L:=D) (c:=j+2) (xs:=[X8 pk]) (by rfl) hdl (by rfl) (by rfl) (by simp;omega)) ?_
            conv=>whnf
            refine l8 (by kernel_rfl) ?_
            conv=>whnf
            exact hgo _ rfl
         exact key2 n2 0 _ (by omega) rfl
       | false=>
         conv=>whnf
         rw [hlt]
         conv=>whnf
         intro X2 hX2 _
         have key2:∀ (m j:Nat) (s:St),j+m=n2→norm [1,2,3,5] s=sSt cells ops k8 H 5 (j:Int) n (j+2) (ds j) (x::L)→X2 s:=by
          intro m
          induction m with
          | zero=>
            intro j s hj hs
            refine y9 hX2 s ?_
            obtain rfl:j=n2:=by omega
            have hl2:decide ((n2:Int)<(k8.length:Int))=true→decide ((n2:Int)<4)=false:=by simp only [n2,decide_eq_true_eq,decide_eq_false_iff_not];omega
            rw [hs]
            have hdl:=hds n2
            generalize ds n2=D at hdl ⊢
            cases hd2:decide ((n2:Int)<(k8.length:Int)) with
            | true=>
              conv=>whnf
              rw [hd2]
              conv=>whnf
              refine d8 (hl2 hd2) ?_
              conv=>whnf
              rfl
            | false=>
              conv=>whnf
              rw [hd2]
              conv=>whnf
              rfl
          | succ m ih=>
            intro j s hj hs
            refine y9 hX2 s ?_
            rw [hs]
            have hjn:j<k8.length∧j<4:=by simp only [n2] at hj;omega
            have hd2:decide ((j:Int)<(k8.length:Int))=true:=by simp;omega
            have h4:decide ((j:Int)<4)=true:=by simp;omega
            have hw:IntKind.i64.wrap ((j:Int)+1)=((j+1:Nat):Int):=by rw [wrap_small (by omega) (by omega)];omega
            obtain ⟨row,hrow⟩:∃ row,k8[j]?=some row:=⟨_,List.getElem?_eq_getElem (by omega)⟩
            obtain ⟨Dn,rfl,hD0,hD1⟩:=hd row (List.mem_of_getElem? hrow)
            have hrow':k8[(j:Int).toNat]?=some [.int .u8 Dn]:=by simpa using hrow
            have hwD:IntKind.i64.wrap Dn=Dn:=wrap_small (by omega) (by omega)
            have hcall:=h28 H (IntKind.i64.wrap Dn) hH (by omega)
            have hg:ds (j+1)=ds j++[X8 (n8 H 3 (IntKind.i64.wrap Dn))]:=by simp [ds,List.range_succ,g,hrow]
            have hgo:∀ s',norm [1,2,3,5] s'=sSt cells ops k8 H 5 (IntKind.i64.wrap ((j:Int)+1)) n (j+2+1) (ds j++[X8 (n8 H 3 (IntKind.i64.wrap Dn))]) (x::L)→X2 s':=fun s' h=>ih (j+1) s' (by omega) (by rw [h,hw,hg])
            have hdl:=hds j
            clear hs ih hg
            generalize ds j=D at hdl hgo ⊢
            generalize n8 H 3 (IntKind.i64.wrap Dn)=pk at hcall hgo
            conv=>whnf
            rw [hd2]
            conv=>whnf
            refine l8 h4 ?_
            conv=>whnf
            refine g9 (i4 (rows:=k8) (j:=(j:Int)) (by rfl) (by rfl) (by omega) hrow') ?_
            conv=>whnf
            refine ⟨_,_,hcall,?_⟩
            conv=>whnf
            refine g9 (M0 (L:=D) (c:=j+2) (xs:=[X8 pk]) (by rfl) hdl (by rfl) (by rfl) (by simp;omega)) ?_
            conv=>whnf
            refine l8 (by kernel_rfl) ?_
            conv=>whnf
            exact hgo _ rfl
         exact key2 n2 0 _ (by omega) rfl
   | succ m ih=>
     intro i s hi hs
     refine y9 hX s ?_
     rw [hs]
     have hin:i<ops.length∧i<20:=by simp only [n] at hi;omega
     have hlt:decide ((i:Int)<(ops.length:Int))=true:=by simp;omega
     have h20:decide ((i:Int)<20)=true:=by simp;omega
     have hw:IntKind.i64.wrap ((i:Int)+1)=((i+1:Nat):Int):=by rw [wrap_small (by omega) (by omega)];omega
     obtain ⟨row,hrow⟩:∃ row,ops[i]?=some row:=⟨_,List.getElem?_eq_getElem (by omega)⟩
     obtain ⟨⟨q1,q2,q3,q4,q5,q6,q7,hqn,hfi⟩,hp⟩:=hf i row hrow
     obtain ⟨K,A,B,N,S,rfl,hA,hB⟩:=ho row (List.mem_of_getElem? hrow)
     have hrow':ops[(i:Int).toNat]?=some [.int .u8 K,.int .u8 A,.int .u8 B,.int .i32 N,.str S]:=by simpa using hrow
     have hnext:(List.range (i+1)).map f=(List.range i).map f++[f i]:=by simp [List.range_succ]
     have hgo:∀ s',norm [1,2,3,4] s'=sSt cells ops k8 H 4 (IntKind.i64.wrap ((i:Int)+1)) (i+1) 2 [X8 0,X8 1] ((List.range i).map f++[f i])→X s':=fun s' h=>ih (i+1) s' (by omega) (by rw [h,hw,hnext])
     have hlen:((List.range i).map f).length=i:=by simp
     clear hnext ih hs
     rw [hfi] at hgo hp
     generalize (List.range i).map f=L at hgo hlen ⊢
     cases L with
     | nil=>
       conv=>whnf
       rw [hlt]
       conv=>whnf
       refine l8 h20 ?_
       conv=>whnf
       refine g9 (i4 (rows:=ops) (j:=(i:Int)) (by rfl) (by rfl) (by omega) hrow') ?_
       conv=>whnf
       refine ⟨_,_,hp,?_⟩
       conv=>whnf
       refine l8 (by kernel_rfl) ?_
       conv=>whnf
       simp only [List.length_nil] at hlen
       subst hlen
       exact hgo _ rfl
     | cons x L=>
       conv=>whnf
       rw [hlt]
       conv=>whnf
       refine l8 h20 ?_
       conv=>whnf
       refine g9 (i4 (rows:=ops) (j:=(i:Int)) (by rfl) (by rfl) (by omega) hrow') ?_
       conv=>whnf
       refine ⟨_,_,hp,?_⟩
       conv=>whnf
       refine g9 (M0 (L:=x::L) (c:=i) (xs:=[[.int .i64 q1,.bool q2,.int .i64 q3,.str q4,.int .i64 q5,.int .i64 q6,.int .i64 q7]]) (by rfl) hlen (by rfl) (by rfl) (by simp;omega)) ?_
       conv=>whnf
       refine l8 (by kernel_rfl) ?_
       conv=>whnf
       exact hgo _ rfl
  exact key n 0 _ (by omega) rfl
theorem b5u (C:Laid P) (cells ops k8:List (List PV)) (hc:∀ r ∈ cells,a6P r):∃ H,(a3W H∧∃ h,LeR H (h.map m9)∧H.length=h.length∧a5s h)∧l9 P G F7 [.agg [.sl 5 cells,.sl 5 ops,.sl 1 k8]] [] (.sl 7 H):=by
 obtain ⟨H,hI,h2⟩:=b7k (fun H=>a3W H∧∃ h,LeR H (h.map m9)∧H.length=h.length∧a5s h) ⟨⟨[],rfl,by simp,b0K⟩,a0X,b8T,rfl,c0H⟩ (l9 P G) cells ops k8 hc (First.ok C) (fun K A B N S H hA hB hN _ hlt ⟨⟨more,em,hm,hall⟩,h,e,hl,t⟩=>by
  obtain ⟨r,h1,h2⟩:=b7a (FV h) (l9 P G) H K A B N S hA hB hN (fun K' A' B' N' S' a b n=>b9d C t.1 e K' A' B' N' S' a b n) (b9b C) (b9c C)
  obtain ⟨c,ec,c1,c2,c3,c4⟩:=c0F h1
  have ml:H.length=10+more.length:=by rw [em,List.length_append];rfl
  refine ⟨r,⟨b6g h1,⟨more++[r],by rw [em,List.append_assoc],by simp;omega,?_⟩,h++[c],by rw [List.map_append];exact e.append (.cons ec .nil),by simp [hl],t.app (by omega) c1 c2 c3 c4⟩,a1R C (a8k C) rfl h2⟩
  intro x hx
  rcases List.mem_append.1 hx with hx | hx
  ·exact hall x hx
  ·simp only [List.mem_singleton] at hx;subst hx;exact b6g h1)
 exact ⟨H,hI,a1R C (a7s C) rfl h2⟩
theorem b5v (C:Laid P) (cells ops k8:List (List PV)) (hc:∀ r ∈ cells,a6P r) (ho:∀ r ∈ ops,b6f r) (hd:∀ r ∈ k8,∃ D,r=[.int .u8 D]∧0≤D∧D<256):
 ∃ s,(c0z s∧a5s s.heap)∧l9 P G B3 [.agg [.sl 5 cells,.sl 5 ops,.sl 1 k8]] [] (aS s):=by
 obtain ⟨H,O,D,⟨hH,t,e1,hn0,htv⟩,⟨m,hm,hO⟩,hD,h4⟩:=b5Q (fun H=>∃ h,LeR H (h.map m9)∧H.length=h.length∧a5s h) (l9 P G) cells ops k8 ho hd (b5u C cells ops k8 hc) (fun K A B N S H a b hH=>c0P C H hH.all.1 hH.all.2 K A B N S a b) (fun H n hH hn=>a5Y C H hH.all.1 hH.all.2 3 n hn)
 have h:=a1R C (a6G C) rfl h4
 have hn:t.length=H.length:=hn0.symm
 have ht:=htv.1
 obtain ⟨lo,e2,hlo,_,hob⟩:=slT hO
 have hDt:∀ {rr:List (List PV)},(∀ r ∈ rr,∃ j:Int,r=X8 j∧0≤j∧j<H.length)→∃ l:List Ob,rr=l.map m6∧∀ o ∈ l,∃ j:Int,o=dO j∧0≤j∧j<H.length:=by
  intro rr
  induction rr with
  | nil=>exact fun _=>⟨[],rfl,by simp⟩
  | cons r rr ih=>
    intro hx
    obtain ⟨j,rfl,hj⟩:=hx r (by simp)
    obtain ⟨l,rfl,hl⟩:=ih fun y hy=>hx y (by simp [hy])
    refine ⟨dO j::l,rfl,?_⟩
    intro y hy
    rcases List.mem_cons.1 hy with rfl | hy
    ·exact ⟨j,rfl,hj⟩
    ·exact hl y hy
 obtain ⟨d1,d2,d3⟩:=hD
 obtain ⟨ld,rfl,hld⟩:=hDt d3
 refine ⟨mkS lo ld t,⟨⟨lo,ld,t,rfl,ht,by omega,hob,by simpa using d1,by simpa using d2,by rw [hn];exact hld⟩,htv⟩,c0X h ?_⟩
 refine P2 (.cons e2 (.cons (.refl _) (.cons (c2A e1) ?_)))
 exact .cons (.emp _) (.cons (.refl _) (.cons (.refl _) (.cons (.refl _) (.cons (.refl _) (.cons (.refl _) (.cons (.refl _) (.cons (.refl _) (.cons (.emp _) (.cons (.refl _) (.cons (.refl _) (.cons (.refl _) (.cons (.refl _) (.cons (.refl _) (.cons (.refl _) (.cons (.refl _) (.cons (.refl _) (.cons (.refl _) (.cons (.refl _) (.cons (.refl _) (.cons (.refl _) (.cons (.refl _) (.cons (.refl _) (.cons (.refl _) (.cons (.refl _) (.cons (.refl _) (.cons (.refl _) (.cons (.refl _) (.cons (.refl _) (.cons (.refl _) (.cons (.refl _) (.cons (.emp _) (.cons (.refl _) (.cons (.refl _) (.cons (.refl _) (.cons (.refl _) (.cons (.refl _) (.cons (.refl _) (.cons (.refl _) (.cons (.refl _) (.cons (.emp _) (.cons (.refl _) (.cons (.refl _) (.cons (.emp _) (.cons (.refl _) (.cons (.refl _) (.cons (.refl _) (.cons (.refl _) (.cons (.refl _) (.cons (.refl _) (.cons (.refl _) (.cons (.refl _) (.cons (.refl _) (.cons (.refl _) (.cons (.refl _) (.cons (.refl _) (.cons (.refl _) (.cons (.refl _) (.cons (.refl _) (.cons (.emp _) (.cons (.emp _) (.cons (.emp _) (.cons (.refl _) (.cons (.refl _) (.nil))))))))))))))))))))))))))))))))))))))))))))))))))))))))))))))))
end Go.Ab.Td
