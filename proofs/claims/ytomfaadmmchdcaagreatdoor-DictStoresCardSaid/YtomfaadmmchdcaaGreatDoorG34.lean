/- A part of the proof: the texts TdZh1, TdZh2, TdZh3, TdZj, TdSk, TdO, TdFj, TdFk. Under: nothing. -/
import Derived.Test.YtomfaadmmchdcaaGreatDoorG33
import Derived.Test.YtomfaadmmchdcaaGreatDoorG29
import Derived.Test.YtomfaadmmchdcaaGreatDoorG24
import Derived.Test.YtomfaadmmchdcaaGreatDoorG32
import Derived.Test.YtomfaadmmchdcaaGreatDoorG21
import Derived.Test.YtomfaadmmchdcaaGreatDoorG22
import Derived.Test.YtomfaadmmchdcaaGreatDoorG18
import Derived.Test.YtomfaadmmchdcaaGreatDoorG19
set_option linter.unusedVariables false
namespace Go.Ab.Td
set_option maxRecDepth 100000
set_option maxRecDepth 100000
open Go Go.Ab
variable {P:Program}
set_option linter.unusedSimpArgs false
attribute [local irreducible] e9
set_option maxHeartbeats 8000000 in
theorem b8M (C:Laid P) (s t:B8) (e:Int) (h:l3 P G C6 [aS s] [] (.o0 [aS t,pI e])):l3 P G C5 [aS s,.str [108,111,97,100]] [] (.o0 [aS t,pI e]):=by
 refine k8 C (a6Z C) rfl ?_
 repeat' ((conv=>whnf);first | (with_reducible refine sC (by kernel_rfl) ?_) | ((first | (with_reducible first | refine sB ?_ | refine z7 ?_ | refine z8 ?_) | refine sP (by rfl) ?_);first | refine oT ?_ | refine oF ?_ | (refine Or.inr (Or.inr ⟨fun hsp=>?_,fun hsp=>?_⟩) <;>(try simp only [nm] at hsp) <;>try subst hsp)) | refine ⟨_,_,h,?_⟩ | fail)
 all_goals (conv=>whnf)
 all_goals (first | exact PV.le.refl _ | ((repeat' (first | (with_reducible exact PV.le.refl _) | exact PV.le.emp _ | exact E6.nil | (with_reducible refine p8 ?_) | (with_reducible refine o6 ?_) | (refine E6.cons ?_ ?_) | (with_reducible refine l0 ?_) | (with_reducible refine q8 ?_) | (with_reducible refine A9 ?_) | (with_reducible refine z9 ?_) | (with_reducible refine o3 ?_) | (refine A8 ?_))) <;>first | rfl | exact le_of_eq rfl))
set_option maxHeartbeats 8000000 in
theorem a5J (C:Laid P) (s t:B8) (e:Int) (h:l3 P G s8 [aS s] [] (.o0 [aS t,pI e])):l3 P G C5 [aS s,.str [115,116,111,114,101]] [] (.o0 [aS t,pI e]):=by
 refine k8 C (a6Z C) rfl ?_
 repeat' ((conv=>whnf);first | (with_reducible refine sC (by kernel_rfl) ?_) | ((first | (with_reducible first | refine sB ?_ | refine z7 ?_ | refine z8 ?_) | refine sP (by rfl) ?_);first | refine oT ?_ | refine oF ?_ | (refine Or.inr (Or.inr ⟨fun hsp=>?_,fun hsp=>?_⟩) <;>(try simp only [nm] at hsp) <;>try subst hsp)) | refine ⟨_,_,h,?_⟩ | fail)
 all_goals (conv=>whnf)
 all_goals (first | exact PV.le.refl _ | ((repeat' (first | (with_reducible exact PV.le.refl _) | exact PV.le.emp _ | exact E6.nil | (with_reducible refine p8 ?_) | (with_reducible refine o6 ?_) | (refine E6.cons ?_ ?_) | (with_reducible refine l0 ?_) | (with_reducible refine q8 ?_) | (with_reducible refine A9 ?_) | (with_reducible refine z9 ?_) | (with_reducible refine o3 ?_) | (refine A8 ?_))) <;>first | rfl | exact le_of_eq rfl))
end Go.Ab.Td
namespace Go.Ab.Td
set_option maxRecDepth 100000
set_option maxRecDepth 100000
open Go Go.Ab
variable {P:Program}
set_option linter.unusedSimpArgs false
attribute [local irreducible] e9
set_option maxHeartbeats 8000000 in
theorem a8g (C:Laid P) (s t:B8) (e:Int) (h:l3 P G s9 [aS s] [] (.o0 [aS t,pI e])):l3 P G C5 [aS s,.str [119,104,101,114,101]] [] (.o0 [aS t,pI e]):=by
 refine k8 C (a6Z C) rfl ?_
 repeat' ((conv=>whnf);first | (with_reducible refine sC (by kernel_rfl) ?_) | ((first | (with_reducible first | refine sB ?_ | refine z7 ?_ | refine z8 ?_) | refine sP (by rfl) ?_);first | refine oT ?_ | refine oF ?_ | (refine Or.inr (Or.inr ⟨fun hsp=>?_,fun hsp=>?_⟩) <;>(try simp only [nm] at hsp) <;>try subst hsp)) | refine ⟨_,_,h,?_⟩ | fail)
 all_goals (conv=>whnf)
 all_goals (first | exact PV.le.refl _ | ((repeat' (first | (with_reducible exact PV.le.refl _) | exact PV.le.emp _ | exact E6.nil | (with_reducible refine p8 ?_) | (with_reducible refine o6 ?_) | (refine E6.cons ?_ ?_) | (with_reducible refine l0 ?_) | (with_reducible refine q8 ?_) | (with_reducible refine A9 ?_) | (with_reducible refine z9 ?_) | (with_reducible refine o3 ?_) | (refine A8 ?_))) <;>first | rfl | exact le_of_eq rfl))
end Go.Ab.Td
namespace Go.Ab.Td
set_option maxRecDepth 100000
open Go Go.Ab
variable {P:Program}
set_option linter.unusedSimpArgs false
attribute [local irreducible] e9
end Go.Ab.Td
namespace Go.Ab.Td
set_option maxRecDepth 100000
set_option maxRecDepth 100000
open Go Go.Ab
variable {P:Program}
set_option linter.unusedSimpArgs false
set_option linter.unusedVariables false
set_option linter.unusedSectionVars false
theorem b9C {lo l:List Ob} {n:Int} (h:(l.length:Int)=n):List.take ((lo++l).length - n.toNat) (lo++l)=lo:=by
 have:(lo++l).length - n.toNat=lo.length:=by rw [List.length_append];omega
 rw [this,List.take_left'];rfl
abbrev DoR (P:Program) (s:B8) (op:List UInt8) (t:B8) (e:Int):Prop:=l3 P G C5 [aS s,.str op] [] (.o0 [aS t,pI e])
abbrev a8w (s:B8) (l:List Ob) (h:List Cl):B8:={s with ops:=l,heap:=h}
theorem b7z (C:Laid P) {s:B8} {lo l:List Ob} {n:Int} (hop:s.ops=lo++l) (hn:(l.length:Int)=n) (hl:lo.length+l.length≤1000) (h:List Cl) (out:List Ob) (ho:lo.length+out.length≤100):l3 P G g8 [aS s,pI n,.sl 7 (List.map j8 h),.sl 7 (List.map i4 out)] [] (.o0 [aS (a8w s (lo++out) h),pI 0]):=by
 have hlen:s.ops.length=lo.length+l.length:=by rw [hop,List.length_append]
 have k:=b8N C s n h out (by omega) (by omega) (by omega) (by omega)
 rw [hop,b9C hn] at k
 exact k
theorem c3I (C:Laid P) {s:B8} {lo l:List Ob} {n:Int} (hop:s.ops=lo++l) (hn:(l.length:Int)=n) (hl:lo.length+l.length≤1000) (h:List Cl) (ho:lo.length≤100):l3 P G g8 [aS s,pI n,.sl 7 (List.map j8 h),.emp 7] [] (.o0 [aS (a8w s lo h),pI 0]):=by
 have k:=b7z C hop hn hl h [] (by simpa using ho)
 rw [List.append_nil] at k
 exact b4C k (.cons (.refl _) (.cons (.refl _) (.cons (.refl _) (.cons (.emp 7) .nil))))
section
variable (C:Laid P) {m:Nat} {s:B8} (t:DS m s) (hm:m≤20000)
include C t hm
theorem b7U (lo:List Ob) (a:Ob) (hop:s.ops=lo++[a]) (hk:(n4 s.heap a).2=0) (i:Nat) (d v:Ob) (ht:a8v s.heap s.d5 (n4 s.heap a).1 i d v):DoR P s [108,111,97,100] (a8w s (lo++[v]) s.heap) 0:=by
 have ol:=t.ol
 have hlo:lo.length+1≤100:=by have:=congrArg List.length hop;simp at this;omega
 have hs:=t.dh.sm (by omega)
 have ko:=a5a C s 1 0 lo [a] hop rfl (by simp;omega) (by decide) (by decide) (by intro p hp;simp at hp) a rfl (t.on a (by rw [hop];simp)) hk
 have kf:=a7e C s (n4 s.heap a).1 hs (by have:=t.dl;omega) t.dv t.dn i d v ht
 exact b8M C s _ _ (b4B C s a _ d v _ _ ko kf (b7z C hop rfl (by simp;omega) s.heap [v] (by simp;omega)))
theorem b4E (lo:List Ob) (a b:Ob) (hop:s.ops=lo++[a,b]) (he:(n4 s.heap a).2≠0):DoR P s [115,116,111,114,101] s (n4 s.heap a).2:=by
 have ol:=t.ol
 have hlo:lo.length+2≤100:=by have:=congrArg List.length hop;simp at this;omega
 have ko:=b0L C s 2 0 lo [a,b] hop rfl (by simp;omega) (by decide) (by decide) (by intro p hp;simp at hp) a rfl (t.on a (by rw [hop];simp)) he
 exact a5J C s s _ (b2e C s _ _ he (ko))
theorem b0p (lo:List Ob) (a b:Ob) (hop:s.ops=lo++[a,b]) (hk:(n4 s.heap a).2=0) (hno:b0J s.heap s.d5 (n4 s.heap a).1) (dl:List Ob) (d:Ob) (hd:s.d5=dl++[d]) (hp:Y2 (cellAt s.heap d) (n4 s.heap a).1 b=none):DoR P s [115,116,111,114,101] s 30:=by
 have ol:=t.ol
 have hlo:lo.length+2≤100:=by have:=congrArg List.length hop;simp at this;omega
 have hs:=t.dh.sm (by omega)
 have ko:=a5a C s 2 0 lo [a,b] hop rfl (by simp;omega) (by decide) (by decide) (by intro p hp;simp at hp) a rfl (t.on a (by rw [hop];simp)) hk
 have kf:=a2S C s (n4 s.heap a).1 hs (by have:=t.dl;omega) t.dv t.dn hno
 have hdm:d ∈ s.d5:=by rw [hd];simp
 have kc:=a1j C s dl d hd (by have:=t.dl;have:=congrArg List.length hd;simp at this;omega)
 exact a5J C s _ _ (a7G C s a b _ d _ _ _ _ ko kf kc (b0Y C s 2 d (n4 s.heap a).1 b 30 (by decide) (a8i C s.heap d (t.dn d hdm) (n4 s.heap a).1 b hs (t.dv d hdm) hp)))
theorem b4F (lo:List Ob) (a b:Ob) (hop:s.ops=lo++[a,b]) (hk:(n4 s.heap a).2=0) (i:Nat) (d v:Ob) (ht:a8v s.heap s.d5 (n4 s.heap a).1 i d v) (c:Cl) (hp:Y2 (cellAt s.heap d) (n4 s.heap a).1 b=some c):DoR P s [115,116,111,114,101] (a8w s lo (s.heap.set d.ref.toNat c)) 0:=by
 have ol:=t.ol
 have hlo:lo.length+2≤100:=by have:=congrArg List.length hop;simp at this;omega
 have hs:=t.dh.sm (by omega)
 have ko:=a5a C s 2 0 lo [a,b] hop rfl (by simp;omega) (by decide) (by decide) (by intro p hp;simp at hp) a rfl (t.on a (by rw [hop];simp)) hk
 have kf:=a7e C s (n4 s.heap a).1 hs (by have:=t.dl;omega) t.dv t.dn i d v ht
 have hdm:d ∈ s.d5:=List.mem_of_getElem? ht.1
 exact a5J C s _ _ (b2f C s a b _ d v _ _ ko kf (a6I C s 2 d (n4 s.heap a).1 b _ _ _ (a7I C s.heap d (t.dn d hdm) (n4 s.heap a).1 b c hs (t.dv d hdm) hp) (c3I C hop rfl (by simp;omega) (s.heap.set d.ref.toNat c) (by omega))))
theorem b5L (lo:List Ob) (a b:Ob) (hop:s.ops=lo++[a,b]) (hk:(n4 s.heap a).2=0) (hno:b0J s.heap s.d5 (n4 s.heap a).1) (dl:List Ob) (d:Ob) (hd:s.d5=dl++[d]) (c:Cl) (hp:Y2 (cellAt s.heap d) (n4 s.heap a).1 b=some c):DoR P s [115,116,111,114,101] (a8w s lo (s.heap.set d.ref.toNat c)) 0:=by
 have ol:=t.ol
 have hlo:lo.length+2≤100:=by have:=congrArg List.length hop;simp at this;omega
 have hs:=t.dh.sm (by omega)
 have ko:=a5a C s 2 0 lo [a,b] hop rfl (by simp;omega) (by decide) (by decide) (by intro p hp;simp at hp) a rfl (t.on a (by rw [hop];simp)) hk
 have kf:=a2S C s (n4 s.heap a).1 hs (by have:=t.dl;omega) t.dv t.dn hno
 have hdm:d ∈ s.d5:=by rw [hd];simp
 have kc:=a1j C s dl d hd (by have:=t.dl;have:=congrArg List.length hd;simp at this;omega)
 exact a5J C s _ _ (a7G C s a b _ d _ _ _ _ ko kf kc (a6I C s 2 d (n4 s.heap a).1 b _ _ _ (a7I C s.heap d (t.dn d hdm) (n4 s.heap a).1 b c hs (t.dv d hdm) hp) (c3I C hop rfl (by simp;omega) (s.heap.set d.ref.toNat c) (by omega))))
theorem b4G (lo:List Ob) (a:Ob) (hop:s.ops=lo++[a]) (he:(n4 s.heap a).2≠0):DoR P s [119,104,101,114,101] s (n4 s.heap a).2:=by
 have ol:=t.ol
 have hlo:lo.length+1≤100:=by have:=congrArg List.length hop;simp at this;omega
 have ko:=b0L C s 1 0 lo [a] hop rfl (by simp;omega) (by decide) (by decide) (by intro p hp;simp at hp) a rfl (t.on a (by rw [hop];simp)) he
 exact a8g C s s _ (b2g C s _ _ he (ko))
theorem b5M (lo:List Ob) (a:Ob) (hop:s.ops=lo++[a]) (hk:(n4 s.heap a).2=0) (hno:b0J s.heap s.d5 (n4 s.heap a).1):DoR P s [119,104,101,114,101] (a8w s (lo++[(⟨2,false,0,[],0,0,0⟩:Ob)]) s.heap) 0:=by
 have ol:=t.ol
 have hlo:lo.length+1≤100:=by have:=congrArg List.length hop;simp at this;omega
 have hs:=t.dh.sm (by omega)
 have ko:=a5a C s 1 0 lo [a] hop rfl (by simp;omega) (by decide) (by decide) (by intro p hp;simp at hp) a rfl (t.on a (by rw [hop];simp)) hk
 have kf:=a2S C s (n4 s.heap a).1 hs (by have:=t.dl;omega) t.dv t.dn hno
 exact a8g C s _ _ (b3b C s a _ _ _ _ _ ko kf (b7z C hop rfl (by simp;omega) s.heap [(⟨2,false,0,[],0,0,0⟩:Ob)] (by simp;omega)))
theorem b2o (lo:List Ob) (a:Ob) (hop:s.ops=lo++[a]) (hk:(n4 s.heap a).2=0) (i:Nat) (d v:Ob) (ht:a8v s.heap s.d5 (n4 s.heap a).1 i d v) (h99:lo.length≤98):DoR P s [119,104,101,114,101] (a8w s (lo++[d,(⟨2,false,1,[],0,0,0⟩:Ob)]) s.heap) 0:=by
 have ol:=t.ol
 have hlo:lo.length+1≤100:=by have:=congrArg List.length hop;simp at this;omega
 have hs:=t.dh.sm (by omega)
 have ko:=a5a C s 1 0 lo [a] hop rfl (by simp;omega) (by decide) (by decide) (by intro p hp;simp at hp) a rfl (t.on a (by rw [hop];simp)) hk
 have kf:=a7e C s (n4 s.heap a).1 hs (by have:=t.dl;omega) t.dv t.dn i d v ht
 exact a8g C s _ _ (b2h C s a _ d v _ _ ko kf (b7z C hop rfl (by simp;omega) s.heap [d,(⟨2,false,1,[],0,0,0⟩:Ob)] (by simp;omega)))
end
end Go.Ab.Td
namespace Go.Ab.Td
set_option maxRecDepth 100000
set_option maxRecDepth 100000
open Go Go.Ab
variable {P:Program}
set_option linter.unusedSimpArgs false
attribute [local irreducible] e9
set_option maxHeartbeats 1000000 in
theorem a4A (C:Laid P) (l:List Ob) (hl:l.length≤1000000):l3 P G m6 [.sl 7 (List.map i4 l),.sl 7 (List.map i4 l)] [] (.bool true):=by
 refine k8 C (a0g C) rfl ?_
 repeat' ((conv=>whnf);first | (with_reducible refine sC (by kernel_rfl) ?_) | ((first | (with_reducible first | refine sB ?_ | refine z7 ?_ | refine z8 ?_) | refine sP (by rfl) ?_);first | refine Or.inl ⟨by first | assumption | (simp only [nm,beq_self_eq_true,Bool.and_self,Bool.and_true,List.length_map];first | done | assumption | omega),?_⟩ | refine Or.inr (Or.inl ⟨by first | assumption | (simp only [nm,beq_self_eq_true,Bool.and_self,Bool.and_true,List.length_map];first | done | assumption | omega),?_⟩) | (refine Or.inr (Or.inr ⟨fun hsp=>?_,fun hsp=>?_⟩) <;>(try simp only [nm,beq_self_eq_true,Bool.and_self,Bool.and_true,List.length_map] at hsp) <;>try subst hsp)) | fail)
 all_goals (conv=>whnf)
 intro X hX hW
 refine a3T hX (fun st (i:Nat)=>st.upd [(13,.pv (pI (i:Int)))] []) (fun i k=>i+k=l.length) 0 l.length (by (conv=>whnf);first | done | rfl) (by omega) ?_
 intro m i ih hI
 rcases a3I l i with ⟨x,hlt,hx⟩ | hge
 ·have hrow:=K4 (f:=i4) hx
  repeat' ((conv=>whnf);first | (with_reducible refine sC (by kernel_rfl) ?_) | ((first | (with_reducible first | refine sB ?_ | refine z7 ?_ | refine z8 ?_) | refine sP (by rfl) ?_);first | refine Or.inl ⟨by first | assumption | (simp only [nm,beq_self_eq_true,Bool.and_self,Bool.and_true,List.length_map];first | done | assumption | omega),?_⟩ | refine Or.inr (Or.inl ⟨by first | assumption | (simp only [nm,beq_self_eq_true,Bool.and_self,Bool.and_true,List.length_map];first | done | assumption | omega),?_⟩) | (refine Or.inr (Or.inr ⟨fun hsp=>?_,fun hsp=>?_⟩) <;>(try simp only [nm,beq_self_eq_true,Bool.and_self,Bool.and_true,List.length_map] at hsp) <;>try subst hsp)) | refine sS (e7 (by rfl) (by rfl) (by omega) hrow) ?_ | fail)
  all_goals (conv=>whnf)
  all_goals (refine ih (m - 1) (i+1) _ (by omega) (by omega) (by (conv=>whnf);first | done | rfl | (simp (disch:=omega) only [P9])))
 ·repeat' ((conv=>whnf);first | (with_reducible refine sC (by kernel_rfl) ?_) | ((first | (with_reducible first | refine sB ?_ | refine z7 ?_ | refine z8 ?_) | refine sP (by rfl) ?_);first | refine Or.inl ⟨by first | assumption | (simp only [nm,beq_self_eq_true,Bool.and_self,Bool.and_true,List.length_map];first | done | assumption | omega),?_⟩ | refine Or.inr (Or.inl ⟨by first | assumption | (simp only [nm,beq_self_eq_true,Bool.and_self,Bool.and_true,List.length_map];first | done | assumption | omega),?_⟩) | (refine Or.inr (Or.inr ⟨fun hsp=>?_,fun hsp=>?_⟩) <;>(try simp only [nm,beq_self_eq_true,Bool.and_self,Bool.and_true,List.length_map] at hsp) <;>try subst hsp)) | fail)
  all_goals (conv=>whnf)
  all_goals (exact PV.le.refl _)
end Go.Ab.Td
namespace Go.Ab.Td
set_option maxRecDepth 100000
open Go Go.Ab
variable {P:Program}
set_option linter.unusedSimpArgs false
attribute [local irreducible] e9
end Go.Ab.Td
namespace Go.Ab.Td
set_option maxRecDepth 100000
open Go Go.Ab
variable {P:Program}
set_option linter.unusedSimpArgs false
attribute [local irreducible] e9
end Go.Ab.Td
namespace Go.Ab.Td
set_option maxRecDepth 100000
open Go Go.Ab
variable {P:Program}
set_option linter.unusedSimpArgs false
attribute [local irreducible] e9
end Go.Ab.Td
