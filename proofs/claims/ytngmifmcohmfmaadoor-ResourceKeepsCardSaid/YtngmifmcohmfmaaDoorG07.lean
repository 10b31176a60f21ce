/- A part of the proof: the texts TdBase, TdPick. Under: nothing. -/
import Derived.Test.YtngmifmcohmfmaaDoorG06
import Derived.Test.YtngmifmcohmfmaaDoorG05
import Derived.KernelRfl
set_option linter.unusedVariables false
namespace Go.Ab.Td
set_option maxRecDepth 100000
set_option maxRecDepth 100000
open Go Go.Ab
def a6p:List PV:=[.str [97],.str [98],.str [97,100,100],.str [120],.str [102,111,111],.str [],.str [112,111,112],.str [70,111,110,116]]
def G:Gl:=⟨fun i=>match i with | 0=>some a6p | _=>none,fun _=>none⟩
def noX:Nat→Option a3t:=fun _=>none
def noT:Nat→Option x4:=fun _=>none
theorem l7 {P:Program} (C:Laid P) {g:Nat} {c:x4} {ps:List PV} {r:PV} (hk:i5 P g c=true) (hl:ps.length=c.nparams) (h:fnV G (l9 P G) noX noT noT 0 c ps r):l9 P G g ps [] r:=
 a9a C.mixed hk (fun _ _ h=>by cases h) (fun _ _ h=>by cases h) (fun _ _ h=>by cases h) hl h
end Go.Ab.Td
namespace Go.Ab.Td
set_option maxRecDepth 100000
set_option maxRecDepth 100000
open Go Go.Ab
abbrev wG:Gl:=G
def c2o (r:List PV):Prop:=∃ k a b c d e f,r=[.int .i64 k,a,b,c,d,e,f]
def kindOf:List PV→Int
 | .int _ k::_=>k
 | _=>0
def idxs (kind:Int):Nat→List (List PV)→List (List PV)
 | _,[]=>[]
 | i,r::l=>match kindOf r==kind with | true=>[.int .i64 (i:Nat)]::idxs kind (i+1) l | false=>idxs kind (i+1) l
theorem a5R (kind:Int):∀ (l m:List (List PV)) (i:Nat),idxs kind i (l++m)=idxs kind i l++idxs kind (i+l.length) m
 | [],m,i=>by simp [idxs]
 | r::l,m,i=>by
   simp only [List.cons_append,idxs,List.length_cons]
   rw [a5R kind l m (i+1),show i+1+l.length=i+(l.length+1) by omega]
   cases kindOf r==kind <;>simp
theorem b0R (kind:Int):∀ (l:List (List PV)) (i:Nat),(idxs kind i l).length≤l.length
 | [],_=>by simp [idxs]
 | r::l,i=>by
   simp only [idxs,List.length_cons]
   have:=b0R kind l (i+1)
   cases kindOf r==kind <;>simp <;>omega
theorem a8c (kind:Int):∀ (l:List (List PV)) (i:Nat) (r:List PV),r ∈ idxs kind i l→∃ j:Nat,r=[.int .i64 (j:Nat)]∧i≤j∧j<i+l.length∧∃ row,l[j - i]?=some row∧kindOf row=kind
 | [],i,r,h=>by simp [idxs] at h
 | x::l,i,r,h=>by
   have later:r ∈ idxs kind (i+1) l→∃ j:Nat,r=[.int .i64 (j:Nat)]∧i≤j∧j<i+(x::l).length∧∃ row,(x::l)[j - i]?=some row∧kindOf row=kind:=by
    intro h
    obtain ⟨j,h1,h2,h3,row,h4,h5⟩:=a8c kind l (i+1) r h
    refine ⟨j,h1,by omega,by simp;omega,row,?_,h5⟩
    rw [show j - i=(j - (i+1))+1 by omega]
    simpa using h4
   simp only [idxs] at h
   cases hk:kindOf x==kind with
   | true=>
     rw [hk] at h
     simp only [List.mem_cons] at h
     rcases h with h | h
     ·exact ⟨i,h,Nat.le_refl _,by simp,x,by simp,by simpa using hk⟩
     ·exact later h
   | false=>
     rw [hk] at h
     exact later h
def n8 (rows:List (List PV)) (kind n:Int):Int:=match (idxs kind 0 rows)[(n.tmod ((idxs kind 0 rows).length:Int)).toNat]? with
 | some [.int _ j]=>j
 | _=> -1
theorem a1D {rows:List (List PV)} {kind n:Int}:n8 rows kind n= -1∨∃ (j:Nat) (row:List PV),n8 rows kind n=(j:Int)∧rows[j]?=some row∧kindOf row=kind:=by
 unfold n8
 cases h:(idxs kind 0 rows)[(n.tmod ((idxs kind 0 rows).length:Int)).toNat]? with
 | none=>exact .inl rfl
 | some r=>
   obtain ⟨j,h1,h2,h3,row,h4,h5⟩:=a8c kind rows 0 r (List.mem_of_getElem? h)
   subst h1
   exact .inr ⟨j,row,rfl,by simpa using h4,h5⟩
def pTm (rows:List (List PV)) (kind n v:Int) (l:AV):T:=((((T.nil.set e9 0 (.pv (.sl 7 rows))).set e9 1 (.pv (.int .i64 kind))).set e9 2 (.pv (.int .i64 n))).set e9 7 l).set e9 8 (.pv (.int .i64 v))
def pSt (rows:List (List PV)) (kind n v:Int) (c:Nat):List (List PV)→St
 | []=>⟨pTm rows kind n v (.emp 1),[],0,36⟩
 | x::L=>⟨pTm rows kind n v (.own 0 0 c),[(0,some (.arr 1 (x::L) false))],1,36⟩
set_option maxHeartbeats 1000000 in
theorem b4K (Ok:Nat→List PV→Own→PV→Prop) (rows:List (List PV)) (kind n:Int) (hr:∀ r ∈ rows,c2o r) (hl:rows.length≤1000000) (hn:0≤n):fnW wG Ok noX noT noT 0 a4I [.sl 7 rows,.int .i64 kind,.int .i64 n] (.int .i64 (n8 rows kind n)):=by
 conv=>whnf
 intro X hX _
 have key:∀ (m i:Nat) (c:Nat) (s:St),i+m=rows.length→c=(idxs kind 0 (rows.take i)).length→norm [0,1,2,7,8] s=pSt rows kind n (i:Int) c (idxs kind 0 (rows.take i))→X s:=by
  intro m
  induction m with
  | zero=>
    intro i c s hi hc hs
    refine y9 hX s ?_
    rw [hs]
    have hti:rows.take i=rows:=List.take_of_length_le (by omega)
    rw [hti] at hc hs ⊢
    have hlen:=b0R kind rows 0
    have hlt:decide ((i:Int)<(rows.length:Int))=false:=by simp;omega
    have hsp:n8 rows kind n=match (idxs kind 0 rows)[(n.tmod ((idxs kind 0 rows).length:Int)).toNat]? with
     | some [.int _ j]=>j
     | _=> -1:=rfl
    have hmem:=a8c kind rows 0
    rw [hsp]
    clear hsp hs
    generalize idxs kind 0 rows=L at hc hlen hmem ⊢
    cases L with
    | nil=>
      conv=>whnf
      refine d8 hlt ?_
      conv=>whnf
      rfl
    | cons x L=>
      have hcp:(c:Int)≠0:=by simp at hc;omega
      have hc0:((c:Int)==0)=false:=by simpa using hcp
      have hj:0≤n.tmod (c:Int)∧n.tmod (c:Int)<c:=⟨Int.tmod_nonneg _ hn,Int.tmod_lt_of_pos _ (by simp at hc;omega)⟩
      obtain ⟨r,hrr⟩:∃ r,(x::L)[(n.tmod (c:Int)).toNat]?=some r:=⟨_,List.getElem?_eq_getElem (by rw [← hc];omega)⟩
      obtain ⟨j,hrj,_,_,_⟩:=hmem r (List.mem_of_getElem? hrr)
      subst hrj
      rw [← hc,hrr]
      conv=>whnf
      refine d8 hlt ?_
      conv=>whnf
      refine d8 hc0 ?_
      conv=>whnf
      refine g9 (D7 (a:=n) (b:=(c:Int)) rfl rfl hcp) ?_
      conv=>whnf
      refine g9 (b7m (j:=n.tmod (c:Int)) rfl rfl rfl hj.1 hj.2) ?_
      generalize (n.tmod (c:Int)).toNat=q at hrr ⊢
      cases q with
      | zero=>
        conv=>whnf
        refine g9 (b4z (es:=1) (sl:=false) (rows:=x::L) (i:=0) (b:=0) (by rfl) (by rfl) hrr) ?_
        conv=>whnf
      | succ q=>
        conv=>whnf
        refine g9 (b4z (es:=1) (sl:=false) (rows:=x::L) (i:=q+1) (b:=0) (by rfl) (by rfl) hrr) ?_
        conv=>whnf
  | succ m ih=>
    intro i c s hi hc hs
    refine y9 hX s ?_
    rw [hs]
    have hlen:=b0R kind (rows.take i) 0
    obtain ⟨row,hrow⟩:∃ row,rows[i]?=some row:=⟨_,List.getElem?_eq_getElem (by omega)⟩
    have hnext:idxs kind 0 (rows.take (i+1))=idxs kind 0 (rows.take i)++(match kindOf row==kind with | true=>[[.int .i64 (i:Int)]] | false=>[]):=by
     rw [List.take_add_one,hrow,a5R]
     simp only [Option.toList_some,idxs,List.length_take,Nat.zero_add]
     rw [show min i rows.length=i by omega]
    have hcl:c≤1000000:=by rw [hc];have:=List.length_take_le i rows;omega
    have hi':(i:Int)+1=((i+1:Nat):Int):=by omega
    have hw:IntKind.i64.wrap ((i:Int)+1)=((i+1:Nat):Int):=by rw [wrap_small (by omega) (by omega)];omega
    obtain ⟨k,a,b,cc,d,e,f,rfl⟩:=hr row (List.mem_of_getElem? hrow)
    have hlt:decide ((i:Int)<(rows.length:Int))=true:=by simp;omega
    have hrow':rows[(i:Int).toNat]?=some [.int .i64 k,a,b,cc,d,e,f]:=by simpa using hrow
    have hgo:∀ (c':Nat) (s':St),c'=(idxs kind 0 (rows.take (i+1))).length→norm [0,1,2,7,8] s'=pSt rows kind n (IntKind.i64.wrap ((i:Int)+1)) c' (idxs kind 0 (rows.take (i+1)))→X s':=fun c' s' h1 h2=>ih (i+1) c' s' (by omega) h1 (by rw [h2,hw])
    rw [hnext] at hgo
    simp only [kindOf] at hgo
    clear hnext hs ih
    generalize idxs kind 0 (rows.take i)=L at hc hgo hlen ⊢
    cases L with
    | nil=>
      conv=>whnf
      refine l8 hlt ?_
      conv=>whnf
      refine g9 (i4 (rows:=rows) (j:=(i:Int)) rfl rfl (by omega) hrow') ?_
      conv=>whnf
      cases hk:(k==kind)
      ·rw [hk] at hgo
       conv=>whnf
       exact hgo 0 _ rfl rfl
      ·rw [hk] at hgo
       conv=>whnf
       exact hgo 1 _ rfl rfl
    | cons x L=>
      conv=>whnf
      refine l8 hlt ?_
      conv=>whnf
      refine g9 (i4 (rows:=rows) (j:=(i:Int)) rfl rfl (by omega) hrow') ?_
      conv=>whnf
      cases hk:(k==kind)
      ·simp only [hk,List.append_nil] at hgo
       conv=>whnf
       exact hgo c _ hc rfl
      ·rw [hk] at hgo
       conv=>whnf
       refine g9 (b0x (L:=x::L) (xs:=[[.int .i64 (i:Int)]]) rfl hc.symm rfl rfl (by simp;omega)) ?_
       conv=>whnf
       exact hgo (c+1) _ (by rw [hc];simp) rfl
 exact key rows.length 0 0 _ (by simp) rfl rfl
end Go.Ab.Td
