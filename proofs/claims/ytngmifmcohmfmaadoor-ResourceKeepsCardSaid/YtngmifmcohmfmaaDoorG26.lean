/- A part of the proof: the texts TdTy. Under: nothing. -/
import Derived.Test.YtngmifmcohmfmaaDoorG25
set_option linter.unusedVariables false
namespace Go.Ab.Td
set_option maxRecDepth 100000
set_option maxRecDepth 100000
open Go Go.Ab
variable {P:Program}
theorem c0X {g:Nat} {ps:List PV} {p r:PV} (h:l9 P G g ps [] p) (hl:PV.le p r):l9 P G g ps [] r:=by
 intro w I vs hb hg ha
 obtain ⟨h1,h2⟩:=h w I vs hb hg ha
 refine ⟨h1,CallsIn.mono h2 fun e w' he=>?_⟩
 cases e with
 | returned v=>
   obtain ⟨I',a,b,c,d⟩:=he
   refine ⟨I',a,b,c,fun nm=>?_⟩
   obtain ⟨ι,e1,e2⟩:=d nm
   cases e2 with
   | pv hp=>exact ⟨ι,e1,.pv (hp.le hl)⟩
 | _=>exact he.elim
theorem c6i {r:List PV} (h:O7 r):∃ o:Ob,r=m6 o∧o.n<9223372036854775808:=by
 obtain ⟨k,e,n,s,rf,o,l,hn,rfl⟩:=h
 exact ⟨⟨k,e,n,s,rf,o,l⟩,rfl,hn⟩
theorem c2I:∀ {rr:List (List PV)},(∀ x ∈ rr,O7 x)→∃ l:List Ob,rr=l.map m6∧∀ o ∈ l,o.n<9223372036854775808
 | [],_=>⟨[],rfl,by simp⟩
 | r::rr,h=>by
   obtain ⟨o,rfl,hn⟩:=c6i (h r (by simp))
   obtain ⟨l,rfl,hl⟩:=c2I (rr:=rr) fun x hx=>h x (by simp [hx])
   refine ⟨o::l,rfl,?_⟩
   intro x hx
   rcases List.mem_cons.1 hx with rfl | hx
   ·exact hn
   ·exact hl x hx
theorem slT {q:PV} {m:Nat} (h:SlR q m):∃ l:List Ob,PV.le q (.sl 7 (l.map m6))∧l.length=m∧m≤1000∧∀ o ∈ l,o.n<9223372036854775808:=by
 rcases h with ⟨rfl,rfl⟩ | ⟨rr,rfl,h1,h2,h3⟩
 ·exact ⟨[],.emp 7,rfl,by omega,by simp⟩
 ·obtain ⟨l,rfl,hl⟩:=c2I h3
  exact ⟨l,.refl _,by simpa using h1,h2,hl⟩
def a8N (c:Cl):Prop:=c.small∧(∀ o ∈ c.v3,o.n<9223372036854775808)∧a2t (m9 c)
theorem a9g {l:List Ob} (h:l.length≤1000) (hn:∀ o ∈ l,o.n<9223372036854775808):SlR (.sl 7 (l.map m6)) l.length:=.inr ⟨_,rfl,by simp,h,fun x hx=>by
 obtain ⟨o,ho,rfl⟩:=List.mem_map.1 hx
 exact ⟨_,_,_,_,_,_,_,hn o ho,rfl⟩⟩
theorem a8N.shape {c:Cl} (h:a8N c):(c.kind=1→c.items=[]∧c.bytes.length≤1000)∧(c.kind=2→c.bytes=[]∧c.items.length≤1000):=by
 obtain ⟨-, -,k,b,q1,q2,q3,mx,a,m1,m2,m3,he,hb,h1,h2,h3⟩:=h
 simp only [m9,List.cons.injEq,PV.int.injEq,PV.str.injEq,true_and] at he
 obtain ⟨e1,e2,e3, -⟩:=he
 subst e1 e2 e3
 rcases h1 with ⟨h1, -⟩ | ⟨rr,h1,hl,hm, -⟩
 ·cases h1
 ·simp only [PV.sl.injEq,true_and] at h1
  subst h1
  simp only [List.length_map] at hl
  subst hl
  exact ⟨fun hk=>⟨List.eq_nil_of_length_eq_zero (hb.2.1 hk).2,(hb.2.1 hk).1⟩,fun hk=>⟨hb.2.2 hk,hm⟩⟩
def dct (k v:List Ob) (m:Int):Cl:=⟨3,[],[],k,v,m,0⟩
def opO (s:List UInt8):Ob:=⟨10,true,0,s,0,0,0⟩
def dO (n:Int):Ob:=⟨9,false,0,[],n,0,0⟩
def a4L:Cl:=dct (a1y.map D1) [dO 5,dO 6,dO 7,dO 8,dO 9] 5
def a0X:List Cl:=[dct [D1 b2a,D1 b2b] [opO b2a,opO b2b] 200,dct [] [] 50,dct [] [] 30,dct [] [] 12,a4L,dct [] [] 10,dct [] [] 10,dct [] [] 10,dct [] [] 10,dct [] [] 10]
theorem b4i (m:Int):LeL (P8 (.emp 7) (.emp 7) m) (m9 (dct [] [] m)):=.cons (.refl _) (.cons (.refl _) (.cons (.emp 7) (.cons (.emp 7) (.cons (.emp 7) (.refl _)))))
theorem c4s (k v:List Ob) (m:Int):LeL (P8 (.sl 7 (k.map m6)) (.sl 7 (v.map m6)) m) (m9 (dct k v m)):=.cons (.refl _) (.cons (.refl _) (.cons (.emp 7) (.refl _)))
theorem b8T:LeR W5 (a0X.map m9):=
 .cons (c4s [D1 b2a,D1 b2b] [opO b2a,opO b2b] 200) (.cons (b4i 50) (.cons (b4i 30) (.cons (b4i 12) (.cons (c4s (a1y.map D1) [dO 5,dO 6,dO 7,dO 8,dO 9] 5)
  (.cons (b4i 10) (.cons (b4i 10) (.cons (b4i 10) (.cons (b4i 10) (.cons (b4i 10) .nil)))))))))
theorem b8U:∀ c ∈ a0X,a8N c:=by
 intro c hc
 simp only [a0X,List.mem_cons,List.not_mem_nil,or_false] at hc
 rcases hc with rfl | rfl | rfl | rfl | rfl | rfl | rfl | rfl | rfl | rfl <;>(refine ⟨⟨by decide,by decide,by decide,by decide⟩,by decide,⟨_,_,_,_,_,_,_,_,_,_,rfl,⟨by decide,by decide,by decide⟩,a9g (by decide) (by decide),a9g (by decide) (by decide),a9g (by decide) (by decide)⟩⟩)
def a1u (h:List Cl):Prop:=∃ more,h=a0X++more∧more.length≤10∧∀ c ∈ h,a8N c
theorem a1u.rows {h:List Cl} (t:a1u h):(∀ r ∈ h.map m9,a2t r)∧(h.map m9).length≤1000000:=by
 obtain ⟨more,rfl,hm,hall⟩:=t
 refine ⟨fun r hr=>?_,by simp [a0X];omega⟩
 obtain ⟨c,hc,rfl⟩:=List.mem_map.1 hr
 exact (hall c hc).2.2
theorem a1u.small {h:List Cl} (t:a1u h):small h:=by
 obtain ⟨more,rfl,hm,hall⟩:=t
 exact ⟨by simp [a0X];omega,fun c hc=>(hall c hc).1⟩
def mkS (ops k8:List Ob) (heap:List Cl):Q0:=⟨ops,k8,heap,[],0,0,0,0,0,0,0,[],0,0,0,0,0,0,0,0,0,0,0,0,0,0,0,0,0,0,0,0,false,false,[],0,0,0,0,0,0,0,0,[],0,0,[],0,false,0,[],0,0,0,0,0,0,0,0,0,0,0,[],[],[],[],1⟩
def c0z (s:Q0):Prop:=∃ ops k8 heap,s=mkS ops k8 heap∧a1u heap∧ops.length≤20∧(∀ o ∈ ops,o.n<9223372036854775808)∧2≤k8.length∧k8.length≤6∧∀ o ∈ k8,∃ j:Int,o=dO j∧0≤j∧j<heap.length
theorem c0z.nOk {s:Q0} (h:c0z s) (l:List Ob) (hl:l.length≤1000) (hn:∀ o ∈ l,o.n<9223372036854775808):Go.Ab.nOk {s with ops:=l}:=by
 obtain ⟨ops,k8,heap,rfl,ht,_⟩:=h
 have hsm:=ht.small
 obtain ⟨more,rfl,hm,hall⟩:=ht
 exact ⟨hsm,by show l.length≤1000000;omega,hn,fun c hc=>(hall c hc).2.1⟩
end Go.Ab.Td
