/- A part of the proof: the texts TdVb. Under: nothing. -/
import Derived.Test.YtngmifmcohmfmaaDoorG10
set_option linter.unusedVariables false
namespace Go.Ab.Td
set_option maxRecDepth 100000
set_option maxRecDepth 100000
open Go Go.Ab
attribute [local irreducible] j6
set_option maxHeartbeats 4000000 in
theorem c3b (F:List PV→Prop) (Ok:Nat→List PV→Own→PV→Prop) (rows:List (List PV)) (K A B N:Int) (S:List UInt8) (hA:0≤A∧A<256)
 (hO:∀ K' A' B' N' S',0≤A'∧A'<256→0≤B'∧B'<256→ -2147483648≤N'∧N'≤2147483647→∃ r,(F r∧O7 r)∧Ok i7 [F0 K' A' B' N' S',.sl 7 rows] [] (.agg r))
 (h0:(K.tmod 5==0)=false) (h1:(K.tmod 5==1)=false) (h2:(K.tmod 5==2)=true):∃ r,a9k F r∧fnW wG Ok noX noT noT 0 y5 [F0 K A B N S,.sl 7 rows] (.agg r):=by
 have hm:0≤(if (40:Int)<S.length then (40:Int) else (S.length:Int))∧(if (40:Int)<S.length then (40:Int) else (S.length:Int))≤S.length:=by split <;>omega
 obtain ⟨f,hf⟩:=Classical.axiomOfChoice (fun i:Nat=>hO _ _ (IntKind.i32.wrap (N.tdiv (IntKind.i32.wrap (IntKind.i64.wrap ((i:Int)+1))))) [] (b1C (A+IntKind.u8.wrap (i:Int))) (b1C (B*IntKind.u8.wrap (IntKind.i64.wrap ((i:Int)+1)))) (b7l _) (K':=IntKind.u8.wrap (B+IntKind.u8.wrap (IntKind.i64.wrap (5*(i:Int))))))
 obtain ⟨a,ha⟩:∃ a:Nat,A.tmod 6=a:=⟨(A.tmod 6).toNat,by have:=Int.tmod_nonneg 6 hA.1;omega⟩
 have ha6:a<6:=by have:=Int.tmod_lt_of_pos A (show (0:Int)<6 by decide);omega
 have hw:IntKind.i64.wrap (A.tmod 6)=a:=by rw [ha,wrap_small (by omega) (by omega)]
 let items:List (List PV):=(List.range a).map f
 refine ⟨[.int .i64 2,.str [],match items with | []=>.emp 7 | x::L=>.sl 7 (((x::L).drop 0).take a),.emp 7,.emp 7,.int .i64 0,.int .i64 0],?_,?_⟩
 ·have hit:∀ x ∈ items,F x:=by
   intro x hx
   obtain ⟨i,_,rfl⟩:=List.mem_map.1 hx
   exact (hf i).1.1
  have hil:items.length=a:=by simp [items]
  refine .inr (.inl ⟨_,a,by omega,?_,rfl⟩)
  revert hit hil
  generalize items=L
  intro hit hil
  cases L with
  | nil=>exact .inl ⟨rfl,by simpa using hil.symm⟩
  | cons x L=>
    refine .inr ⟨_,rfl,?_,?_⟩
    ·simp only [List.drop_zero,List.length_take];omega
    ·intro y hy
     exact hit y (List.mem_of_mem_take (by simpa using hy))
 ·conv=>whnf
  refine g9 (a4v (s:=S) (h:=if (40:Int)<S.length then (40:Int) else (S.length:Int)) (by rfl) (by rfl) hm.1 hm.2) ?_
  conv=>whnf
  refine d8 h0 ?_
  conv=>whnf
  refine d8 h1 ?_
  conv=>whnf
  refine l8 h2 ?_
  conv=>whnf
  intro X hX _
  have key:∀ (m i:Nat) (s:St),i+m=a→norm [1,2,4,6,7] s=cSt rows K A B N S (i:Int) i ((List.range i).map f)→X s:=by
   intro m
   induction m with
   | zero=>
     intro i s hi hs
     refine y9 hX s ?_
     rw [hs]
     have hia:i=a:=by omega
     subst hia
     have hlt:decide ((i:Int)<IntKind.i64.wrap (A.tmod 6))=false:=by rw [hw];simp
     show aw wG Ok _ true _ _ (cSt rows K A B N S (i:Int) i items)
     generalize items=L
     cases L with
     | nil=>
       conv=>whnf
       refine d8 hlt ?_
       conv=>whnf
     | cons x L=>
       conv=>whnf
       refine d8 hlt ?_
       conv=>whnf
   | succ m ih=>
     intro i s hi hs
     refine y9 hX s ?_
     rw [hs]
     obtain ⟨⟨_,q1,q2,q3,q4,q5,q6,q7,hqn,hfi⟩,hp⟩:=hf i
     have hlt:decide ((i:Int)<IntKind.i64.wrap (A.tmod 6))=true:=by rw [hw];simp;omega
     have hb:IntKind.i32.wrap (IntKind.i64.wrap ((i:Int)+1))≠0:=by rw [wrap_small (by omega) (by omega),b3P (by omega) (by omega)];omega
     have hnext:(List.range (i+1)).map f=(List.range i).map f++[f i]:=by simp [List.range_succ]
     have hw1:IntKind.i64.wrap ((i:Int)+1)=((i+1:Nat):Int):=by rw [wrap_small (by omega) (by omega)];omega
     have hgo:∀ s',norm [1,2,4,6,7] s'=cSt rows K A B N S (IntKind.i64.wrap ((i:Int)+1)) (i+1) ((List.range i).map f++[f i])→X s':=fun s' h=>ih (i+1) s' (by omega) (by rw [h,hw1,hnext])
     have hlen:((List.range i).map f).length=i:=by simp
     clear hnext ih hs
     rw [hfi] at hgo hp
     generalize (List.range i).map f=L at hgo hlen ⊢
     cases L with
     | nil=>
       conv=>whnf
       refine l8 hlt ?_
       conv=>whnf
       refine g9 (a1S (k:=.i32) (by rfl) (by rfl) hb) ?_
       conv=>whnf
       refine l8 (by kernel_rfl) ?_
       conv=>whnf
       refine ⟨_,_,hp,?_⟩
       conv=>whnf
       refine l8 (by kernel_rfl) ?_
       conv=>whnf
       simp only [List.length_nil] at hlen
       subst hlen
       exact hgo _ rfl
     | cons x L=>
       conv=>whnf
       refine l8 hlt ?_
       conv=>whnf
       refine g9 (a1S (k:=.i32) (by rfl) (by rfl) hb) ?_
       conv=>whnf
       refine l8 (by kernel_rfl) ?_
       conv=>whnf
       refine ⟨_,_,hp,?_⟩
       conv=>whnf
       refine g9 (b0x (L:=x::L) (c:=i) (xs:=[[.int .i64 q1,.bool q2,.int .i64 q3,.str q4,.int .i64 q5,.int .i64 q6,.int .i64 q7]]) (by rfl) hlen (by rfl) (by rfl) (by simp;omega)) ?_
       conv=>whnf
       refine l8 (by kernel_rfl) ?_
       conv=>whnf
       exact hgo _ rfl
  exact key a 0 _ (by omega) rfl
end Go.Ab.Td
