/- A part of the proof: the texts TdXd. Under: nothing. -/
import Derived.Test.YtomfaadmmchdcaaDoorG26
import Derived.Test.YtomfaadmmchdcaaDoorG30
import Derived.Test.YtomfaadmmchdcaaDoorG31
import Derived.Test.YtomfaadmmchdcaaDoorG32
import Derived.Test.YtomfaadmmchdcaaDoorG33
import Derived.Test.YtomfaadmmchdcaaDoorG34
import Derived.Test.YtomfaadmmchdcaaDoorG35
import Derived.Test.YtomfaadmmchdcaaDoorG36
import Derived.Test.YtomfaadmmchdcaaDoorG24
import Derived.Test.YtomfaadmmchdcaaDoorG37
import Derived.Test.YtomfaadmmchdcaaDoorG27
import Derived.Test.YtomfaadmmchdcaaDoorG42
import Derived.Test.YtomfaadmmchdcaaDoorG41
set_option linter.unusedVariables false
namespace Go.Ab.Td
set_option maxRecDepth 100000
set_option maxRecDepth 100000
open Go Go.Ab
variable {P:Program}
set_option linter.unusedSimpArgs false
set_option linter.unusedVariables false
set_option linter.unusedSectionVars false
structure RS (s:C3):Prop where
 n:nOk s
 rh:RH s.heap
 fo:∀ o ∈ s.ops,fits s.heap o
 ol:s.ops.length≤97
def RO (s:C3) (t:C3) (e:Int):Prop:=(e≠0∧t=s)∨(e=0∧∃ l h,t={s with ops:=l,heap:=h}∧l.length<s.ops.length∧(∀ o ∈ l,o.n<9223372036854775808)∧(h=s.heap∨∃ (j:Nat) (c:Cl),h=s.heap.set j c∧b7e c)∧RH h)
def a3X (P:Program) (s:C3) (op:List UInt8):Prop:=∃ t e,RO s t e∧l8 P G p9 [aS s,.str op] [] (.p7 [aS t,pI e])∧l8 P G o5 [aS s,.str op] [] (.p7 [aS t,pI e])
theorem b1D {h:List Cl} {o:Ob} (hf:fits h o) (hk:o.kind≠0):(i3 h o).2=0∨(i3 h o).2=23:=by
 unfold i3
 rw [if_neg (fun x=>x hf)]
 by_cases h6:o.kind=6
 ·rw [if_pos h6]
  split
  ·exact .inr rfl
  ·exact .inl rfl
 ·rw [if_neg h6,if_neg hk];exact .inl rfl
theorem b6R (s:C3) {l:List Ob} (h:s.ops=l):stL s l=s:=by subst h;rfl
theorem b0g {s:C3} {lo l:List Ob} {n:Int} (h:s.ops=lo++l) (hn:(l.length:Int)=n) (i:Int):opA s n i=(l[i.toNat]?).getD A2:=by
 unfold opA
 have:c3i s n=l:=by
  unfold c3i
  rw [h]
  have:(lo++l).length - n.toNat=lo.length:=by rw [List.length_append];omega
  rw [this,List.drop_left]
 rw [this]
theorem c6L {l:List Ob} (h:3≤l.length):∃ lo k o c,l=lo++[k,o,c]:=by
 refine ⟨l.take (l.length - 3),l[l.length - 3],l[l.length - 2],l[l.length - 1],?_⟩
 have e:l.drop (l.length - 3)=[l[l.length - 3],l[l.length - 2],l[l.length - 1]]:=by
  apply List.ext_getElem
  ·simp;omega
  ·intro i h1 h2
   rw [List.getElem_drop]
   match i,h2 with
   | 0,_=>simp
   | 1,_=>simp;congr 1;omega
   | 2,_=>simp;congr 1;omega
 rw [← e,List.take_append_drop]
theorem c6K {l:List Ob} (h:2≤l.length):∃ lo k c,l=lo++[k,c]:=by
 refine ⟨l.take (l.length - 2),l[l.length - 2],l[l.length - 1],?_⟩
 have e:l.drop (l.length - 2)=[l[l.length - 2],l[l.length - 1]]:=by
  apply List.ext_getElem
  ·simp;omega
  ·intro i h1 h2
   rw [List.getElem_drop]
   match i,h2 with
   | 0,_=>simp
   | 1,_=>simp;congr 1;omega
 rw [← e,List.take_append_drop]
theorem RH.c6x {h:List Cl} (t:RH h):N2 h a0o [9]=0∧cellAt h a0o=a7R:=a2U (j:=4) (by decide) (by decide) t.cat rfl
theorem RH.b7G {h:List Cl} (t:RH h) {c:Ob} (hr:T7 h c):∃ j:Nat,5≤j∧j≤9∧(look (cellAt h a0o) c).getD A2=dO j:=by
 obtain ⟨h1, -⟩:=hr
 rw [t.c6x.2] at*
 cases hl:look a7R c with
 | none=>rw [hl] at h1;cases h1
 | some v=>
   have hm:=b2q hl
   simp only [a7R,dct,List.mem_cons,List.not_mem_nil,or_false] at hm
   rcases hm with rfl | rfl | rfl | rfl | rfl
   ·exact ⟨5,by decide,by decide,rfl⟩
   ·exact ⟨6,by decide,by decide,rfl⟩
   ·exact ⟨7,by decide,by decide,rfl⟩
   ·exact ⟨8,by decide,by decide,rfl⟩
   ·exact ⟨9,by decide,by decide,rfl⟩
theorem RH.b8n {h:List Cl} (t:RH h) {j:Nat} (h5:5≤j) (h9:j≤9):N2 h (dO j) [9]=0∧∃ c,h[j]?=some c∧cellAt h (dO j)=c∧c.kind=3∧W7 h c∧nC c:=by
 obtain ⟨c,hc,hk⟩:=t.b4J j h5 h9
 have:=a2U (h:=h) (j:=(j:Int)) (by omega) (by omega) (by simpa using hc) hk
 exact ⟨this.1,c,hc,this.2,hk,t.valid.1 c (List.mem_of_getElem? hc),t.nc c (List.mem_of_getElem? hc)⟩
theorem RH.b7k {h:List Cl} (t:RH h) (c:Ob):(a4k h c=0↔T7 h c)∧(¬ T7 h c→a4k h c=24):=by
 unfold a4k T7
 have:=t.c6x.1
 constructor
 ·constructor
  ·intro h
   split at h
   ·rename_i hx;exact hx.2
   ·cases h
  ·intro h;rw [if_pos ⟨this,h⟩]
 ·intro h;rw [if_neg (fun hx=>h hx.2)]
theorem c2Q {h:List Cl} (hs:small h) {d k v:Ob} {c:Cl} (hp:X7 (cellAt h d) k v=some c):b7e c:=by
 obtain ⟨h1,h2,h3,h4⟩:=P3 hs d
 obtain ⟨-, -,e,f1,f2, -⟩:=b4i hp
 exact ⟨by omega,by omega,by rw [e];omega⟩
theorem c2R {h:List Cl} (hs:small h) {d:Ob} {q:Nat}:b7e (a1g (cellAt h d) q):=by
 obtain ⟨h1,h2,h3⟩:=b2V (P3 hs d)
 refine ⟨?_,?_,h3⟩
 ·show (List.eraseIdx _ _).length<_
  rw [List.length_eraseIdx];split <;>omega
 ·show (List.eraseIdx _ _).length<_
  rw [List.length_eraseIdx];split <;>omega
section
variable (C:Laid P) {s:C3} (t:RS s)
include C t
omit t in
theorem c0N {op:List UInt8} (h:¬ op ∈ k7):a3X P s op:=⟨s,24,.inl ⟨by decide,rfl⟩,b9D C s op h,b7D C s op h⟩
theorem b5R:a3X P s o3:=by
 have hs:=t.n.1
 have h4:4<s.heap.length:=by have:=t.rh.len;omega
 have ol:=t.ol
 have bad:∀ e:Int,e≠0→W5 s 3=e→l8 P G o5 [aS s,.str o3] [] (.p7 [aS s,pI e])→a3X P s o3:=fun e he ha hr=>
  ⟨s,e,.inl ⟨he,rfl⟩,a9n C s s e (by rw [← ha];exact b6B C s _ t.n (by rw [ha];exact he)),hr⟩
 by_cases hu:s.ops.length<3
 ·exact bad 20 (by decide) (by unfold W5;rw [if_pos (by omega)]) (b3D C s hu)
 obtain ⟨lo,k,o,c,hop⟩:=c6L (by omega:3≤s.ops.length)
 have hlo:lo.length≤94:=by have:=congrArg List.length hop;simp at this;omega
 have hst:=b6R s hop
 have a0:opA s 3 0=k:=by rw [b0g (l:=[k,o,c]) (n:=3) hop rfl];rfl
 have a1:opA s 3 1=o:=by rw [b0g (l:=[k,o,c]) (n:=3) hop rfl];rfl
 have a2:opA s 3 (3 - 1)=c:=by rw [b0g (l:=[k,o,c]) (n:=3) hop rfl];rfl
 have fk:fits s.heap k:=t.fo k (by rw [hop];simp)
 have fo:fits s.heap o:=t.fo o (by rw [hop];simp)
 have fc:fits s.heap c:=t.fo c (by rw [hop];simp)
 have on:o.n<9223372036854775808:=t.n.2.2.1 o (by rw [hop];simp)
 have ask:W5 s 3=if k.kind=0∨(c.kind≠5∧c.kind≠6) then 22 else if (i3 s.heap k).2≠0 then (i3 s.heap k).2 else if (i3 s.heap c).2≠0 then (i3 s.heap c).2 else a4k s.heap (i3 s.heap c).1:=by
  unfold W5
  rw [if_neg (by omega),a0,a2]
 by_cases hk:k.kind=0∨(c.kind≠5∧c.kind≠6)
 ·exact bad 22 (by decide) (by rw [ask,if_pos hk]) (by have:=b5p C s lo k o c (by omega) hk;rw [hst] at this;exact this)
 have k0:k.kind≠0:=fun h=>hk (.inl h)
 have c0:c.kind=5∨c.kind=6:=by omega
 rcases (b1D fk k0).symm with e1 | e1
 ·exact bad 23 (by decide) (by rw [ask,if_neg hk,if_pos (by rw [e1];decide),e1]) (by have:=b0G C s lo k o c (by omega) fk fc k0 c0 (.inl (by rw [e1];decide));rw [hst] at this;exact this)
 rcases (b1D fc (by omega)).symm with e2 | e2
 ·exact bad 23 (by decide) (by rw [ask,if_neg hk,if_neg (by rw [e1];decide),if_pos (by rw [e2];decide),e2]) (by have:=b0G C s lo k o c (by omega) fk fc k0 c0 (.inr (by rw [e2];decide));rw [hst] at this;exact this)
 have ask:W5 s 3=a4k s.heap (i3 s.heap c).1:=by rw [ask,if_neg hk,if_neg (by rw [e1];decide),if_neg (by rw [e2];decide)]
 obtain ⟨d1,d2⟩:=t.rh.b7k (i3 s.heap c).1
 rcases (Classical.em (T7 s.heap (i3 s.heap c).1)).symm with hr | hr
 ·exact bad 24 (by decide) (by rw [ask,d2 hr]) (by have:=b5m C s lo k o c (by omega) fk fc k0 c0 e1 e2 hs h4 hr;rw [hst] at this;exact this)
 obtain ⟨j,h5,h9,hj⟩:=t.rh.b7G hr
 obtain ⟨v1,cl,hcl,hce,hck,hcr,hnc⟩:=t.rh.b8n h5 h9
 have jl:(j:Int)<s.heap.length:=by have:=(List.getElem?_eq_some_iff.1 hcl).1;omega
 have ask0:W5 s 3=0:=by rw [ask];exact d1.2 hr
 have dO':a7V s.heap (i3 s.heap c).1=dO j:=by unfold a7V;rw [if_pos (d1.2 hr),hj]
 have run:∀ (u:C3) (e:Int),l8 P G n6 [aS s,.agg (a5Q (i3 s.heap k).1 o (i3 s.heap c).1 (dO j) 3)] [] (.p7 [aS u,pI e])→l8 P G p9 [aS s,.str o3] [] (.p7 [aS u,pI e]):=fun u e h=>
  a9n C s u e (c3g C s u _ e t.n ask0 (by rw [a0,a1,a2,dO'];exact h))
 rcases (Classical.em (a0Z (i3 s.heap c).1.name o)).symm with hsu | hsu
 ·exact ⟨s,22,.inl ⟨by decide,rfl⟩,run s 22 (b5k C s _ _ _ _ 3 hsu),by have:=b5n C s lo k o c (by omega) fk fc k0 c0 e1 e2 hs h4 j hj hr (by omega) jl (by omega) hsu;rw [hst] at this;exact this⟩
 cases hp:X7 (cellAt s.heap (dO j)) (i3 s.heap k).1 o with
 | none=>exact ⟨s,30,.inl ⟨by decide,rfl⟩,run s 30 (b2y C s _ _ _ _ 3 t.n (by show (0:Int)<_;decide) hsu v1 hp),by have:=b6z C s lo k o c (by omega) fk fc k0 c0 e1 e2 hs h4 j hj hr (by omega) jl (by omega) hsu hp;rw [hst] at this;exact this⟩
 | some c2=>
   have hr2:=b3A C s lo k o c (by omega) fk fc k0 c0 e1 e2 hs h4 j hj hr (by omega) jl (by omega) hsu c2 hp
   have hp2:=b9H C s (i3 s.heap k).1 o (i3 s.heap c).1 (dO j) 3 t.n (by show (0:Int)<_;decide) c2 (by decide) (by omega) (by omega) hsu v1 hp
   rw [hst] at hr2
   have e:s.ops.take (s.ops.length - (3:Int).toNat)=lo:=by rw [hop,a1O (n:=3) rfl]
   rw [e] at hp2
   obtain ⟨gk,gkf,gkn⟩:=c1e (t.n.2.2.1 k (by rw [hop];simp)) fk e1
   have rh2:RH (s.heap.set ((j:Int)).toNat c2):=by
    rw [hce] at hp
    obtain ⟨r2,k32,hsz, -⟩:=b9P hcr hck gk gkf fo hp
    rw [Int.toNat_natCast]
    exact t.rh.set h5 h9 hcl k32 hsz r2 (c5z hnc gkn on hp)
   refine ⟨_,0,.inr ⟨rfl,lo++[o],_,rfl,by rw [hop];simp,fun p hp=>?_,.inr ⟨_,_,rfl,c2Q hs hp⟩,rh2⟩,run _ 0 hp2,hr2⟩
   rcases List.mem_append.1 hp with hp | hp
   ·exact t.n.2.2.1 p (by rw [hop];simp [hp])
   ·simp only [List.mem_singleton] at hp;rw [hp];exact on
theorem b1L {op:List UInt8} (hop:op≠o3) (hin:op ∈ k7) (g:Nat) (hdo:∀ (u:C3) (e:Int),l8 P G m9 [.ref [.func (.func g9) [aS s] []],.ref [pI 2],.ref (a9P s),.ref [.func (.func g) [aS s] []]] [] (.p7 [aS u,pI e])→l8 P G p9 [aS s,.str op] [] (.p7 [aS u,pI e]))
 (fin:∀ (lo:List Ob) (k c:Ob) (j:Nat),5≤j→j≤9→s.ops=lo++[k,c]→lo.length≤95→stL s (lo++[k,c])=s→fits s.heap k→fits s.heap c→k.kind≠0→(c.kind=5∨c.kind=6)→(i3 s.heap k).2=0→(i3 s.heap c).2=0→T7 s.heap (i3 s.heap c).1→(look (cellAt s.heap a0o) (i3 s.heap c).1).getD A2=dO j→(j:Int)<s.heap.length→N2 s.heap (dO j) [9]=0→
  (∀ (u:C3) (e:Int),l8 P G g [aS s,.agg (a5Q (i3 s.heap k).1 c (i3 s.heap c).1 (dO j) 2)] [] (.p7 [aS u,pI e])→l8 P G p9 [aS s,.str op] [] (.p7 [aS u,pI e]))→a3X P s op):a3X P s op:=by
 have hs:=t.n.1
 have h4:4<s.heap.length:=by have:=t.rh.len;omega
 have ol:=t.ol
 have bad:∀ e:Int,e≠0→W5 s 2=e→l8 P G o5 [aS s,.str op] [] (.p7 [aS s,pI e])→a3X P s op:=fun e he ha hr=>
  ⟨s,e,.inl ⟨he,rfl⟩,hdo s e (by rw [← ha];exact b6A C s _ t.n (by rw [ha];exact he)),hr⟩
 by_cases hu:s.ops.length<2
 ·exact bad 20 (by decide) (by unfold W5;rw [if_pos (by omega)]) (b3C C s hu op hop hin)
 obtain ⟨lo,k,c,hp⟩:=c6K (by omega:2≤s.ops.length)
 have hlo:lo.length≤95:=by have:=congrArg List.length hp;simp at this;omega
 have hst:=b6R s hp
 have a0:opA s 2 0=k:=by rw [b0g (l:=[k,c]) (n:=2) hp rfl];rfl
 have a1:opA s 2 1=c:=by rw [b0g (l:=[k,c]) (n:=2) hp rfl];rfl
 have a2:opA s 2 (2 - 1)=c:=by rw [b0g (l:=[k,c]) (n:=2) hp rfl];rfl
 have fk:fits s.heap k:=t.fo k (by rw [hp];simp)
 have fc:fits s.heap c:=t.fo c (by rw [hp];simp)
 have ask:W5 s 2=if k.kind=0∨(c.kind≠5∧c.kind≠6) then 22 else if (i3 s.heap k).2≠0 then (i3 s.heap k).2 else if (i3 s.heap c).2≠0 then (i3 s.heap c).2 else a4k s.heap (i3 s.heap c).1:=by
  unfold W5
  rw [if_neg (by omega),a0,a2]
 by_cases hk:k.kind=0∨(c.kind≠5∧c.kind≠6)
 ·exact bad 22 (by decide) (by rw [ask,if_pos hk]) (by have:=b5o C s lo k c (by omega) op hop hin hk;rw [hst] at this;exact this)
 have k0:k.kind≠0:=fun h=>hk (.inl h)
 have c0:c.kind=5∨c.kind=6:=by omega
 rcases (b1D fk k0).symm with e1 | e1
 ·exact bad 23 (by decide) (by rw [ask,if_neg hk,if_pos (by rw [e1];decide),e1]) (by have:=b0F C s lo k c (by omega) op hop hin fk fc k0 c0 (.inl (by rw [e1];decide));rw [hst] at this;exact this)
 rcases (b1D fc (by omega)).symm with e2 | e2
 ·exact bad 23 (by decide) (by rw [ask,if_neg hk,if_neg (by rw [e1];decide),if_pos (by rw [e2];decide),e2]) (by have:=b0F C s lo k c (by omega) op hop hin fk fc k0 c0 (.inr (by rw [e2];decide));rw [hst] at this;exact this)
 have ask:W5 s 2=a4k s.heap (i3 s.heap c).1:=by rw [ask,if_neg hk,if_neg (by rw [e1];decide),if_neg (by rw [e2];decide)]
 obtain ⟨d1,d2⟩:=t.rh.b7k (i3 s.heap c).1
 rcases (Classical.em (T7 s.heap (i3 s.heap c).1)).symm with hr | hr
 ·exact bad 24 (by decide) (by rw [ask,d2 hr]) (by have:=b5l C s lo k c (by omega) op hop hin fk fc k0 c0 e1 e2 hs h4 hr;rw [hst] at this;exact this)
 obtain ⟨j,h5,h9,hj⟩:=t.rh.b7G hr
 obtain ⟨v1,cl,hcl,hce,hck,hcr,hnc⟩:=t.rh.b8n h5 h9
 have jl:(j:Int)<s.heap.length:=by have:=(List.getElem?_eq_some_iff.1 hcl).1;omega
 have ask0:W5 s 2=0:=by rw [ask];exact d1.2 hr
 have dO':a7V s.heap (i3 s.heap c).1=dO j:=by unfold a7V;rw [if_pos (d1.2 hr),hj]
 exact fin lo k c j h5 h9 hp hlo hst fk fc k0 c0 e1 e2 hr hj jl v1 fun u e h=>hdo u e (c3f C s u _ e t.n ask0 (by rw [a0,a1,a2,dO'];exact h))
omit C t in
theorem c6i {h:List Cl} (hi:RH h) {d k v:Ob} (hl:look (cellAt h d) k=some v):v.n<9223372036854775808:=by
 have hm:=b2q hl
 unfold cellAt at hm
 cases hc:h[d.ref.toNat]? with
 | none=>rw [hc] at hm;simp [cl0] at hm
 | some c=>rw [hc] at hm;exact (hi.nc c (List.mem_of_getElem? hc)).2.2 v hm
theorem c5w {lo l:List Ob} (h:s.ops=lo++l):∀ p ∈ lo,p.n<9223372036854775808:=fun p hp=>t.n.2.2.1 p (by rw [h];simp [hp])
theorem b9h:a3X P s [102,105,110,100,114,101,115,111,117,114,99,101]:=by
 refine b1L C t (by decide) (by decide) _ (fun u e h=>b5h C s u e h) fun lo k c j h5 h9 hop hlo hst fk fc k0 c0 e1 e2 hr hj jl v1 run=>?_
 have hs:=t.n.1
 have h4:4<s.heap.length:=by have:=t.rh.len;omega
 have ol:=t.ol
 have l2:2≤s.ops.length:=by rw [hop];simp
 have et:s.ops.take (s.ops.length - (2:Int).toNat)=lo:=by rw [hop,a1O (n:=2) rfl]
 cases hf:look (cellAt s.heap (dO j)) (i3 s.heap k).1 with
 | none=>
   have fe:a5S s.heap (dO j) (i3 s.heap k).1=40:=by unfold a5S;rw [if_neg (by rw [v1];decide),hf];rfl
   have h1:=b3x C s (i3 s.heap k).1 c (i3 s.heap c).1 (dO j) 2 t.n (by show (0:Int)<_;decide) (by rw [fe];decide)
   rw [fe] at h1
   exact ⟨s,40,.inl ⟨by decide,rfl⟩,run s 40 h1,by have:=b2B C s lo k c (by omega) fk fc k0 c0 e1 e2 hs h4 j hj hr (by omega) jl (by omega) hf;rw [hst] at this;exact this⟩
 | some v=>
   have fe:a5S s.heap (dO j) (i3 s.heap k).1=0:=by unfold a5S;rw [if_neg (by rw [v1];decide),hf];rfl
   have fo:b4L s.heap (dO j) (i3 s.heap k).1=v:=by unfold b4L;rw [if_neg (by rw [v1];decide),hf];rfl
   have h1:=b9I C s (i3 s.heap k).1 c (i3 s.heap c).1 (dO j) 2 t.n (by show (0:Int)<_;decide) (by decide) (by omega) (by omega) fe
   rw [fo,et] at h1
   have h2:=b6y C s lo k c (by omega) fk fc k0 c0 e1 e2 hs h4 j hj hr (by omega) jl (by omega) v hf
   rw [hst] at h2
   refine ⟨_,0,.inr ⟨rfl,lo++[v],s.heap,rfl,by rw [hop];simp,fun p hp=>?_,.inl rfl,t.rh⟩,run _ 0 h1,h2⟩
   rcases List.mem_append.1 hp with hp | hp
   ·exact c5w C t hop p hp
   ·simp only [List.mem_singleton] at hp;rw [hp];exact c6i t.rh hf
theorem b5S:a3X P s [114,101,115,111,117,114,99,101,115,116,97,116,117,115]:=by
 refine b1L C t (by decide) (by decide) _ (fun u e h=>b5j C s u e h) fun lo k c j h5 h9 hop hlo hst fk fc k0 c0 e1 e2 hr hj jl v1 run=>?_
 have hs:=t.n.1
 have h4:4<s.heap.length:=by have:=t.rh.len;omega
 have ol:=t.ol
 have l2:2≤s.ops.length:=by rw [hop];simp
 have et:s.ops.take (s.ops.length - (2:Int).toNat)=lo:=by rw [hop,a1O (n:=2) rfl]
 have hb:∀ b:Int,b<9223372036854775808→∀ p ∈ lo++[(⟨2,false,b,[],0,0,0⟩:Ob)],p.n<9223372036854775808:=fun b hb p hp=>by
  rcases List.mem_append.1 hp with hp | hp
  ·exact c5w C t hop p hp
  ·simp only [List.mem_singleton] at hp;rw [hp];exact hb
 cases hf:look (cellAt s.heap (dO j)) (i3 s.heap k).1 with
 | none=>
   have fe:a5S s.heap (dO j) (i3 s.heap k).1=40:=by unfold a5S;rw [if_neg (by rw [v1];decide),hf];rfl
   have h1:=b5u C s (i3 s.heap k).1 c (i3 s.heap c).1 (dO j) 2 t.n (by show (0:Int)<_;decide) (by decide) (by omega) (by omega) (by rw [fe];decide)
   rw [et] at h1
   have h2:=b0f C s lo k c (by omega) fk fc k0 c0 e1 e2 hs h4 j hj hr (by omega) jl (by omega) hf
   rw [hst] at h2
   exact ⟨_,0,.inr ⟨rfl,_,s.heap,rfl,by rw [hop];simp,hb 0 (by decide),.inl rfl,t.rh⟩,run _ 0 h1,h2⟩
 | some v=>
   have fe:a5S s.heap (dO j) (i3 s.heap k).1=0:=by unfold a5S;rw [if_neg (by rw [v1];decide),hf];rfl
   have h1:=b3G C s (i3 s.heap k).1 c (i3 s.heap c).1 (dO j) 2 t.n (by show (0:Int)<_;decide) (by decide) (by omega) (by omega) fe
   rw [et] at h1
   have h2:=b3B C s lo k c (by omega) fk fc k0 c0 e1 e2 hs h4 j hj hr (by omega) jl (by omega) v hf
   rw [hst] at h2
   exact ⟨_,0,.inr ⟨rfl,_,s.heap,rfl,by rw [hop];simp,hb 1 (by decide),.inl rfl,t.rh⟩,run _ 0 h1,h2⟩
theorem b7g:a3X P s [117,110,100,101,102,105,110,101,114,101,115,111,117,114,99,101]:=by
 refine b1L C t (by decide) (by decide) _ (fun u e h=>b5i C s u e h) fun lo k c j h5 h9 hop hlo hst fk fc k0 c0 e1 e2 hr hj jl v1 run=>?_
 have hs:=t.n.1
 have h4:4<s.heap.length:=by have:=t.rh.len;omega
 have ol:=t.ol
 have l2:2≤s.ops.length:=by rw [hop];simp
 have et:s.ops.take (s.ops.length - (2:Int).toNat)=lo:=by rw [hop,a1O (n:=2) rfl]
 have hb:∀ p ∈ lo++[],p.n<9223372036854775808:=fun p hp=>c5w C t hop p (by simpa using hp)
 obtain ⟨-,cl,hcl,hce,hck,hcr,hnc⟩:=t.rh.b8n h5 h9
 rcases (Classical.em ((i3 s.heap k).1 ∈ cl.keys)).symm with hm | hm
 ·have hi:i6 (i3 s.heap k).1 0 (cellAt s.heap (dO j)).keys<0∨(cellAt s.heap (dO j)).p8.length≤i6 (i3 s.heap k).1 0 (cellAt s.heap (dO j)).keys:=by rw [hce];exact .inl (b2g hm)
  have h1:=b5t C s (i3 s.heap k).1 c (i3 s.heap c).1 (dO j) 2 t.n (by show (0:Int)<_;decide) (by decide) (by omega) (by omega) v1 hi
  rw [et] at h1
  have h2:=b1d C s lo k c (by omega) fk fc k0 c0 e1 e2 hs h4 j hj hr (by omega) jl (by omega) hi
  rw [hst] at h2
  exact ⟨_,0,.inr ⟨rfl,_,s.heap,rfl,by rw [hop];simp,hb,.inl rfl,t.rh⟩,run _ 0 h1,h2⟩
 ·obtain ⟨q,hq,hqk,hqv,rr, -⟩:=b9R hcr hck hm
  rw [← hce] at hq hqk hqv
  have rh3:RH (s.heap.set ((j:Int)).toNat (a1g (cellAt s.heap (dO j)) q)):=by
   rw [Int.toNat_natCast,hce]
   exact t.rh.set (c':=a1g cl q) h5 h9 hcl hck rfl rr (c5A hnc q)
  have h1:=b9K C s (i3 s.heap k).1 c (i3 s.heap c).1 (dO j) 2 t.n (by show (0:Int)<_;decide) (by decide) (by omega) (by omega) v1 q hq hqk hqv
  rw [et] at h1
  have h2:=b5q C s lo k c (by omega) fk fc k0 c0 e1 e2 hs h4 j hj hr (by omega) jl (by omega) q hq hqk hqv
  rw [hst] at h2
  exact ⟨_,0,.inr ⟨rfl,_,_,rfl,by rw [hop];simp,hb,.inr ⟨_,_,rfl,c2R hs⟩,rh3⟩,run _ 0 h1,h2⟩
theorem c0M (op:List UInt8):a3X P s op:=by
 by_cases h:op ∈ k7
 ·simp only [k7,List.mem_cons,List.not_mem_nil,or_false] at h
  rcases h with rfl | rfl | rfl | rfl
  ·exact b5R C t
  ·exact b9h C t
  ·exact b7g C t
  ·exact b5S C t
 ·exact c0N C h
end
end Go.Ab.Td
