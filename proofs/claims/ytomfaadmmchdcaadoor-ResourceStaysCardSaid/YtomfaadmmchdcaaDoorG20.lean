/- A part of the proof: the texts TdCell3, TdHeap, TdState, TdKitF, TdKit, TdTy. Under: nothing. -/
import Derived.Test.YtomfaadmmchdcaaDoorG19
import Derived.Test.YtomfaadmmchdcaaDoorG05
set_option linter.unusedVariables false
namespace Go.Ab.Td
set_option maxRecDepth 100000
set_option maxRecDepth 100000
open Go Go.Ab
theorem N3 {σ:d6} {nm es bytes c:Nat} {ev:RA→AV} {s x:RA} {b:Nat} {sl:Bool} {L xs:List (List PV)} {rd:List Nat} (hs:ev s= .own b 0 c) (hc:L.length=c) (hf:find σ b=some (.arr es L sl)) (hx:n8 σ es (ev x)=some (xs,rd)) (hb:(c+xs.length)*bytes≤2 ^ 40):
 step σ nm ev (.append es bytes s x)=some {v:=.own nm 0 (c+xs.length),rd:=b::rd,up:=[(b,none),(nm,some (.arr es (L++xs) sl))]}:=by
 simp only [step,hs,AV.e,hf,hc,and_self,if_true,hx]
 rw [if_pos hb]
def a6N (i:Int):List UInt8:=match b0q.drop (i.toNat*1) with
 | .str c::_=>c
 | _=>[]
theorem c0w {i:Int} (h0:0≤i) (h1:i<8):∃ l,b0q.drop (i.toNat*1)= .str (a6N i)::l:=by
 obtain ⟨c,l,h⟩:=c4u h0 h1
 exact ⟨l,by unfold a6N;rw [h]⟩
def a7D (s:List UInt8):List PV:=[.int .i64 5,.bool false,.int .i64 0,.str s,.int .i64 0,.int .i64 0,.int .i64 0]
def dTm (rows:List (List PV)) (v:Int):T:=((((T.nil.set d9 1 (.pv (.sl 7 rows))).set d9 2 (.ptr 0 0 0)).set d9 4 (.ptr 1 0 0)).set d9 9 (.ptr 2 0 0)).set d9 10 (.pv (.int .i64 v))
def c6y (a:Int) (ks vs:AV):List AV:=[.pv (.int .i64 3),.pv (.str []),.pv (.emp 7),ks,vs,.pv (.int .i64 a),.pv (.int .i64 0)]
def dSt (rows:List (List PV)) (K A B N:Int) (S:List UInt8) (a v:Int) (c:Nat) (ks:List (List PV)):List (List PV)→St
 | []=>⟨dTm rows v,[(0,some (.box 5 [c4t K A B N S] false)),(1,some (.box 7 [b9a] false)),(2,some (.box 7 [c6y a (.pv (.emp 7)) (.pv (.emp 7))] false))],3,139⟩
 | x::L=>⟨dTm rows v,[(0,some (.box 5 [c4t K A B N S] false)),(1,some (.box 7 [b9a] false)),(2,some (.box 7 [c6y a (.own 3 0 c) (.own 4 0 c)] false)),(3,some (.arr 7 ks false)),(4,some (.arr 7 (x::L) false))],5,139⟩
attribute [local irreducible] g8
end Go.Ab.Td
namespace Go.Ab.Td
set_option maxRecDepth 100000
set_option maxRecDepth 100000
open Go Go.Ab
def c6u (r:List PV):Prop:=∃ K A B N S,r=[.int .u8 K,.int .u8 A,.int .u8 B,.int .i32 N,.str S]∧(0≤A∧A<256)∧(0≤B∧B<256)
def hTm (n:Nat) (v:Int):T:=((T.nil.set d9 1 (.ptr 0 0 0)).set d9 3 (.own 1 0 n)).set d9 4 (.pv (.int .i64 v))
def hSt (cells ops j8:List (List PV)) (v:Int) (n:Nat) (rows:List (List PV)) (sl:Bool):St:=
 ⟨hTm n v,[(0,some (.box 3 [[.pv (.sl 5 cells),.pv (.sl 5 ops),.pv (.sl 1 j8)]] false)),(1,some (.arr 7 rows sl))],2,29⟩
def c1w (s:List UInt8):List PV:=[.int .i64 10,.bool true,.int .i64 0,.str s,.int .i64 0,.int .i64 0,.int .i64 0]
def Q4 (n:Int):List PV:=[.int .i64 9,.bool false,.int .i64 0,.str [],.int .i64 n,.int .i64 0,.int .i64 0]
def b3J:List UInt8:=[97,100,100]
def b3K:List UInt8:=[112,111,112]
def b0S:List (List UInt8):=[[70,111,110,116],[80,97,116,116,101,114,110],[69,110,99,111,100,105,110,103],[70,111,114,109],[71,101,110,101,114,105,99]]
def R3 (ks vs:PV) (m:Int):List PV:=[.int .i64 3,.str [],.emp 7,ks,vs,.int .i64 m,.int .i64 0]
def Y3:List (List PV):=[R3 (.sl 7 [a7D b3J,a7D b3K]) (.sl 7 [c1w b3J,c1w b3K]) 200,R3 (.emp 7) (.emp 7) 50,R3 (.emp 7) (.emp 7) 30,R3 (.emp 7) (.emp 7) 12,
 R3 (.sl 7 (b0S.map a7D)) (.sl 7 [Q4 5,Q4 6,Q4 7,Q4 8,Q4 9]) 5,
 R3 (.emp 7) (.emp 7) 10,R3 (.emp 7) (.emp 7) 10,R3 (.emp 7) (.emp 7) 10,R3 (.emp 7) (.emp 7) 10,R3 (.emp 7) (.emp 7) 10]
theorem a1U (m:Int):a2X (R3 (.emp 7) (.emp 7) m):=⟨_,_,_,_,_,_,_,0,0,0,rfl,⟨by simp,fun hk=>⟨by simp,by first | rfl | exact absurd hk (by decide)⟩,fun _=>rfl⟩,SlR.none,SlR.none,SlR.none⟩
theorem a2Y.i (k:Int) (e:Bool) (n:Int) (s:List UInt8) (rf o l:Int) (hn:n<9223372036854775808):a2Y [.int .i64 k,.bool e,.int .i64 n,.str s,.int .i64 rf,.int .i64 o,.int .i64 l]:=⟨_,_,_,_,_,_,_,hn,rfl⟩
theorem b5X {ks vs:List (List PV)} {m:Int} (hk:∀ x ∈ ks,a2Y x) (hv:∀ x ∈ vs,a2Y x) (hk':ks.length≤1000) (hv':vs.length≤1000):a2X (R3 (.sl 7 ks) (.sl 7 vs) m):=
 ⟨_,_,_,_,_,_,_,0,ks.length,vs.length,rfl,⟨by simp,fun hk=>⟨by simp,by first | rfl | exact absurd hk (by decide)⟩,fun _=>rfl⟩,SlR.none,.inr ⟨_,rfl,rfl,hk',hk⟩,.inr ⟨_,rfl,rfl,hv',hv⟩⟩
theorem b1X:∀ r ∈ Y3,a2X r:=by
 intro r h
 simp only [Y3,List.mem_cons,List.not_mem_nil,or_false] at h
 rcases h with rfl | rfl | rfl | rfl | rfl | rfl | rfl | rfl | rfl | rfl
 ·exact b5X (by simp [a7D,a2Y]) (by simp [c1w,a2Y]) (by simp) (by simp)
 ·exact a1U _
 ·exact a1U _
 ·exact a1U _
 ·exact b5X (by simp [a7D,a2Y,b0S]) (by simp [Q4,a2Y]) (by simp [b0S]) (by simp)
 ·exact a1U _
 ·exact a1U _
 ·exact a1U _
 ·exact a1U _
 ·exact a1U _
def a4y (H:List (List PV)):Prop:=∃ more,H=Y3++more∧more.length≤10∧∀ r ∈ H,a2X r
attribute [local irreducible] g8
end Go.Ab.Td
namespace Go.Ab.Td
set_option maxRecDepth 100000
set_option maxRecDepth 100000
open Go Go.Ab
def c5J (a b c z:AV):List AV:=[a,b,c,.emp 3,.pv (.int .i64 (0)),.pv (.int .i64 (0)),.pv (.int .i64 (0)),.pv (.int .i64 (0)),.pv (.int .i64 (0)),.pv (.int .i64 (0)),.pv (.int .i64 (0)),.emp 7,.pv (.int .i64 (0)),.pv (.int .i64 (0)),.pv (.int .i64 (0)),.pv (.int .i64 (0)),.pv (.int .i64 (0)),.pv (.int .i64 (0)),.pv (.int .i64 (0)),.pv (.int .i64 (0)),.pv (.int .i64 (0)),.pv (.int .i64 (0)),.pv (.int .i64 (0)),.pv (.int .i64 (0)),.pv (.int .i64 (0)),.pv (.int .i64 (0)),.pv (.int .i64 (0)),.pv (.int .i64 (0)),.pv (.int .i64 (0)),.pv (.int .i64 (0)),.pv (.int .i64 (0)),.pv (.int .i64 (0)),.pv (.bool false),.pv (.bool false),.emp 47,.pv (.int .i64 (0)),.pv (.int .i64 (0)),.pv (.int .i64 (0)),.pv (.int .i64 (0)),.pv (.int .i64 (0)),.pv (.int .i64 (0)),.pv (.int .i64 (0)),.pv (.int .i64 (0)),.emp 1,.pv (.int .i64 (0)),.pv (.int .i64 (0)),.emp 2,.pv (.int .i64 (0)),.pv (.bool false),.pv (.int .i64 (0)),.pv (.str []),.pv (.int .i64 (0)),.pv (.int .i64 (0)),.pv (.int .i64 (0)),.pv (.int .i64 (0)),.pv (.int .i64 (0)),.pv (.int .i64 (0)),.pv (.int .i64 (0)),.pv (.int .i64 (0)),.pv (.int .i64 (0)),.pv (.int .i64 (0)),.pv (.int .i64 (0)),.emp 57,.emp 47,.emp 3,.pv (.str []),z]
def stV (o d h z:PV):PV:=.agg [o,d,h,.emp 3,.int .i64 (0),.int .i64 (0),.int .i64 (0),.int .i64 (0),.int .i64 (0),.int .i64 (0),.int .i64 (0),.emp 7,.int .i64 (0),.int .i64 (0),.int .i64 (0),.int .i64 (0),.int .i64 (0),.int .i64 (0),.int .i64 (0),.int .i64 (0),.int .i64 (0),.int .i64 (0),.int .i64 (0),.int .i64 (0),.int .i64 (0),.int .i64 (0),.int .i64 (0),.int .i64 (0),.int .i64 (0),.int .i64 (0),.int .i64 (0),.int .i64 (0),.bool false,.bool false,.emp 47,.int .i64 (0),.int .i64 (0),.int .i64 (0),.int .i64 (0),.int .i64 (0),.int .i64 (0),.int .i64 (0),.int .i64 (0),.emp 1,.int .i64 (0),.int .i64 (0),.emp 2,.int .i64 (0),.bool false,.int .i64 (0),.str [],.int .i64 (0),.int .i64 (0),.int .i64 (0),.int .i64 (0),.int .i64 (0),.int .i64 (0),.int .i64 (0),.int .i64 (0),.int .i64 (0),.int .i64 (0),.int .i64 (0),.emp 57,.emp 47,.emp 3,.str [],z]
theorem b9L {H:List (List PV)} (hH:a4y H) {n:Int} (hn:0≤n):0≤o0 H 3 n∧o0 H 3 n<H.length:=by
 obtain ⟨more,rfl,hm,hall⟩:=hH
 have hpos:∃ c:Nat,(idxs 3 0 (Y3++more)).length=c+1:=by
  rw [a6q]
  exact ⟨_,rfl⟩
 obtain ⟨c,hc⟩:=hpos
 have hj:0≤n.tmod ((c+1:Nat):Int)∧n.tmod ((c+1:Nat):Int)<((c+1:Nat):Int):=⟨Int.tmod_nonneg _ hn,Int.tmod_lt_of_pos _ (by omega)⟩
 unfold o0
 rw [hc]
 obtain ⟨r,hr⟩:∃ r,(idxs 3 0 (Y3++more))[(n.tmod ((c+1:Nat):Int)).toNat]?=some r:=⟨_,List.getElem?_eq_getElem (by omega)⟩
 rw [hr]
 obtain ⟨j,rfl,_,h3,_⟩:=a8W 3 _ 0 r (List.mem_of_getElem? hr)
 simp only []
 omega
def c4U (D H:List (List PV)):Prop:=2≤D.length∧D.length≤6∧∀ r ∈ D,∃ j:Int,r=Q4 j∧0≤j∧j<H.length
section
variable (cells ops j8 H:List (List PV))
def drB:Nat × Option e6:=(0,some (.box 3 [[.pv (.sl 5 cells),.pv (.sl 5 ops),.pv (.sl 1 j8)]] false))
def zB:Nat × Option e6:=(1,some (.box 67 [c5J (.emp 7) (.emp 7) (.emp 7) (.pv (.int .i64 0))] false))
def sTm (k v:Nat) (w:Int):T:=(((T.nil.set d9 1 (.ptr 0 0 0)).set d9 2 (.ptr 1 0 0)).set d9 3 (.ptr k 0 0)).set d9 v (.pv (.int .i64 w))
def sSt (k:Nat) (v:Int) (c d:Nat) (D:List (List PV)):List (List PV)→St
 | []=>⟨sTm 2 k v,[drB cells ops j8,zB,(2,some (.box 67 [c5J (.emp 7) (.own 3 0 d) (.pv (.sl 7 H)) (.pv (.int .i64 1))] false)),(3,some (.arr 7 D false))],4,63⟩
 | x::L=>⟨sTm 2 k v,[drB cells ops j8,zB,(2,some (.box 67 [c5J (.own 3 0 c) (.own 4 0 d) (.pv (.sl 7 H)) (.pv (.int .i64 1))] false)),(3,some (.arr 7 (x::L) false)),(4,some (.arr 7 D false))],5,63⟩
end
attribute [local irreducible] g8
end Go.Ab.Td
namespace Go.Ab.Td
set_option maxRecDepth 100000
set_option maxRecDepth 100000
open Go Go.Ab
variable {P:Program}
namespace First
def tb (g:Nat):Option u0:=match g==s0 with | true=>some a0C | false=>match g==A5 with | true=>some a2D | false=>none
def tc (g:Nat):Option u0:=match g==A8 with | true=>some N9 | false=>tb g
def to (g:Nat):Option u0:=match g==B3 with | true=>some W6 | false=>none
theorem c4R (C:Laid P):∀ g c,tb g=some c→f0 P g c=true:=by
 intro g c h
 unfold tb at h
 split at h
 ·rename_i hg;cases h;rw [beq_iff_eq] at hg;subst hg;exact a2I C
 ·split at h
  ·rename_i hg;cases h;rw [beq_iff_eq] at hg;subst hg;exact a5w C
  ·cases h
theorem c7y (C:Laid P):∀ g c,tc g=some c→f0 P g c=true:=by
 intro g c h
 unfold tc at h
 split at h
 ·rename_i hg;cases h;rw [beq_iff_eq] at hg;subst hg;exact Z9 C
 ·exact c4R C g c h
theorem c7B (C:Laid P):∀ g c,to g=some c→f0 P g c=true:=by
 intro g c h
 unfold to at h
 split at h
 ·rename_i hg;cases h;rw [beq_iff_eq] at hg;subst hg;exact a4o C
 ·cases h
theorem run:isR [(0,0)] (.sl 7 Y3) ((a5l G kn0 noX tb noT tc to 10000 20).call B3 [.sl 1 [[.str b3J],[.str b3K]]])=true:=by kernel_rfl
theorem ok (C:Laid P):l8 P G B3 [.sl 1 [[.str b3J],[.str b3K]]] [(0,0)] (.sl 7 Y3):=
 b0e C.mixed (fun _ _ _ _ h=>by cases h) (fun _ _ h=>by cases h) (c4R C) (fun _ _ h=>by cases h) (c7y C) (c7B C) (b7t run)
end First
end Go.Ab.Td
namespace Go.Ab.Td
set_option maxRecDepth 100000
set_option maxRecDepth 100000
open Go Go.Ab
variable {P:Program}
theorem b0b (C:Laid P) {g:Nat} {c:u0} {ps:List PV} {r:PV} (hk:f0 P g c=true) (hl:ps.length=c.nparams) (h:fnW G (l8 P G) noX noT noT 0 c ps r):l8 P G g ps [] r:=
 b4f C.mixed hk (fun _ _ h=>by cases h) (fun _ _ h=>by cases h) (fun _ _ h=>by cases h) hl h
theorem c1i (C:Laid P) (rows:List (List PV)) (hr:∀ r ∈ rows,a2X r) (hl:rows.length≤1000000) (kind n:Int) (hn:0≤n):l8 P G J8 [.sl 7 rows,.int .i64 kind,.int .i64 n] [] (.int .i64 (o0 rows kind n)):=
 b0b C (a9f C) rfl (b6F _ rows kind n (fun r h=>(hr r h).k) hl hn)
section
variable (C:Laid P) (rows:List (List PV)) (hr:∀ r ∈ rows,a2X r) (hl:rows.length≤1000000) (kd K A B N:Int) (S:List UInt8) (hA:0≤A∧A<256) (hB:0≤B∧B<256)
include C hr hl hA
end
theorem c1g (C:Laid P) (n:Int):l8 P G s0 [.int .i64 n] [] (b5Y n):=b0b C (a2I C) rfl (by (conv=>whnf);rfl)
theorem c1h (C:Laid P) (s:List UInt8):l8 P G A5 [.str s] [] (b6t s):=b0b C (a5w C) rfl (by (conv=>whnf);rfl)
theorem a4y.all {H:List (List PV)} (h:a4y H):(∀ r ∈ H,a2X r)∧H.length≤1000000:=by
 obtain ⟨more,rfl,h1,h2⟩:=h
 exact ⟨h2,by simp [Y3];omega⟩
end Go.Ab.Td
namespace Go.Ab.Td
set_option maxRecDepth 100000
set_option maxRecDepth 100000
open Go Go.Ab
variable {P:Program}
theorem c9a {r:List PV} (h:a2Y r):∃ o:Ob,r=i4 o∧o.n<9223372036854775808:=by
 obtain ⟨k,e,n,s,rf,o,l,hn,rfl⟩:=h
 exact ⟨⟨k,e,n,s,rf,o,l⟩,rfl,hn⟩
theorem c4M:∀ {rr:List (List PV)},(∀ x ∈ rr,a2Y x)→∃ l:List Ob,rr=l.map i4∧∀ o ∈ l,o.n<9223372036854775808
 | [],_=>⟨[],rfl,by simp⟩
 | r::rr,h=>by
   obtain ⟨o,rfl,hn⟩:=c9a (h r (by simp))
   obtain ⟨l,rfl,hl⟩:=c4M (rr:=rr) fun x hx=>h x (by simp [hx])
   refine ⟨o::l,rfl,?_⟩
   intro x hx
   rcases List.mem_cons.1 hx with rfl | hx
   ·exact hn
   ·exact hl x hx
def a7T (c:Cl):Prop:=c.small∧(∀ o ∈ c.p8,o.n<9223372036854775808)∧a2X (j6 c)
theorem b0m {l:List Ob} (h:l.length≤1000) (hn:∀ o ∈ l,o.n<9223372036854775808):SlR (.sl 7 (l.map i4)) l.length:=.inr ⟨_,rfl,by simp,h,fun x hx=>by
 obtain ⟨o,ho,rfl⟩:=List.mem_map.1 hx
 exact ⟨_,_,_,_,_,_,_,hn o ho,rfl⟩⟩
theorem a7T.shape {c:Cl} (h:a7T c):(c.kind=1→c.items=[]∧c.bytes.length≤1000)∧(c.kind=2→c.bytes=[]∧c.items.length≤1000):=by
 obtain ⟨-, -,k,b,q1,q2,q3,mx,a,m1,m2,m3,he,hb,h1,h2,h3⟩:=h
 simp only [j6,List.cons.injEq,PV.int.injEq,PV.str.injEq,true_and] at he
 obtain ⟨e1,e2,e3, -⟩:=he
 subst e1 e2 e3
 rcases h1 with ⟨h1, -⟩ | ⟨rr,h1,hl,hm, -⟩
 ·cases h1
 ·simp only [PV.sl.injEq,true_and] at h1
  subst h1
  simp only [List.length_map] at hl
  subst hl
  exact ⟨fun hk=>⟨List.eq_nil_of_length_eq_zero (hb.2.1 hk).2,(hb.2.1 hk).1⟩,fun hk=>⟨hb.2.2 hk,hm⟩⟩
def dct (k v:List Ob) (m:Int):Cl:=⟨3,[],[],k,v,m,0⟩
def opO (s:List UInt8):Ob:=⟨10,true,0,s,0,0,0⟩
def dO (n:Int):Ob:=⟨9,false,0,[],n,0,0⟩
def a7R:Cl:=dct (b0S.map W4) [dO 5,dO 6,dO 7,dO 8,dO 9] 5
def a1v:List Cl:=[dct [W4 b3J,W4 b3K] [opO b3J,opO b3K] 200,dct [] [] 50,dct [] [] 30,dct [] [] 12,a7R,dct [] [] 10,dct [] [] 10,dct [] [] 10,dct [] [] 10,dct [] [] 10]
theorem b5V (m:Int):N8 (R3 (.emp 7) (.emp 7) m) (j6 (dct [] [] m)):=.cons (.refl _) (.cons (.refl _) (.cons (.emp 7) (.cons (.emp 7) (.cons (.emp 7) (.refl _)))))
theorem c6z (k v:List Ob) (m:Int):N8 (R3 (.sl 7 (k.map i4)) (.sl 7 (v.map i4)) m) (j6 (dct k v m)):=.cons (.refl _) (.cons (.refl _) (.cons (.emp 7) (.refl _)))
theorem c0Z:LeR Y3 (a1v.map j6):=
 .cons (c6z [W4 b3J,W4 b3K] [opO b3J,opO b3K] 200) (.cons (b5V 50) (.cons (b5V 30) (.cons (b5V 12) (.cons (c6z (b0S.map W4) [dO 5,dO 6,dO 7,dO 8,dO 9] 5)
  (.cons (b5V 10) (.cons (b5V 10) (.cons (b5V 10) (.cons (b5V 10) (.cons (b5V 10) .nil)))))))))
theorem c1a:∀ c ∈ a1v,a7T c:=by
 intro c hc
 simp only [a1v,List.mem_cons,List.not_mem_nil,or_false] at hc
 rcases hc with rfl | rfl | rfl | rfl | rfl | rfl | rfl | rfl | rfl | rfl <;>(refine ⟨⟨by decide,by decide,by decide,by decide⟩,by decide,⟨_,_,_,_,_,_,_,_,_,_,rfl,⟨by decide,by decide,by decide⟩,b0m (by decide) (by decide),b0m (by decide) (by decide),b0m (by decide) (by decide)⟩⟩)
def a1P (h:List Cl):Prop:=∃ more,h=a1v++more∧more.length≤10∧∀ c ∈ h,a7T c
theorem a1P.rows {h:List Cl} (t:a1P h):(∀ r ∈ h.map j6,a2X r)∧(h.map j6).length≤1000000:=by
 obtain ⟨more,rfl,hm,hall⟩:=t
 refine ⟨fun r hr=>?_,by simp [a1v];omega⟩
 obtain ⟨c,hc,rfl⟩:=List.mem_map.1 hr
 exact (hall c hc).2.2
theorem a1P.small {h:List Cl} (t:a1P h):small h:=by
 obtain ⟨more,rfl,hm,hall⟩:=t
 exact ⟨by simp [a1v];omega,fun c hc=>(hall c hc).1⟩
def mkS (ops j8:List Ob) (heap:List Cl):C3:=⟨ops,j8,heap,[],0,0,0,0,0,0,0,[],0,0,0,0,0,0,0,0,0,0,0,0,0,0,0,0,0,0,0,0,false,false,[],0,0,0,0,0,0,0,0,[],0,0,[],0,false,0,[],0,0,0,0,0,0,0,0,0,0,0,[],[],[],[],1⟩
def c0H (s:C3):Prop:=∃ ops j8 heap,s=mkS ops j8 heap∧a1P heap∧ops.length≤20∧(∀ o ∈ ops,o.n<9223372036854775808)∧2≤j8.length∧j8.length≤6∧∀ o ∈ j8,∃ j:Int,o=dO j∧0≤j∧j<heap.length
theorem c0H.nOk {s:C3} (h:c0H s) (l:List Ob) (hl:l.length≤1000) (hn:∀ o ∈ l,o.n<9223372036854775808):Go.Ab.nOk {s with ops:=l}:=by
 obtain ⟨ops,j8,heap,rfl,ht,_⟩:=h
 have hsm:=ht.small
 obtain ⟨more,rfl,hm,hall⟩:=ht
 exact ⟨hsm,by show l.length≤1000000;omega,hn,fun c hc=>(hall c hc).2.1⟩
end Go.Ab.Td
