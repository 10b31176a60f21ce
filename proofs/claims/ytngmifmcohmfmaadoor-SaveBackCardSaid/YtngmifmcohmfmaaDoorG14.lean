/- A part of the proof: the texts TdSc, TdSd. Under: nothing. -/
import Derived.Test.YtngmifmcohmfmaaDoorG13
set_option linter.unusedVariables false
namespace Go.Ab.Td
set_option maxRecDepth 100000
set_option maxRecDepth 100000
open Go Go.Ab
variable {P:Program}
set_option linter.unusedSimpArgs false
attribute [local irreducible] e9
def grO (s:v9):List PV:=[.int .i64 s.f5,.int .i64 s.f6,.int .i64 s.f7,.int .i64 s.f8,.int .i64 s.f9,.int .i64 s.f10,.sl 7 s.f11,.int .i64 s.f12,.int .i64 s.f13,.int .i64 s.f14,.int .i64 s.f15,.int .i64 s.f16,.int .i64 s.f17,.int .i64 s.f18,.int .i64 s.f19,.int .i64 s.f20,.int .i64 s.f21,.int .i64 s.f22,.int .i64 s.f23,.int .i64 s.f24,.int .i64 s.f25,.int .i64 s.f26,.int .i64 s.f27,.int .i64 s.f28,.int .i64 s.f29,.int .i64 s.f30,.int .i64 s.f31,.bool s.f32,.bool s.f33,.sl 47 s.f34,.int .i64 s.f35,.int .i64 s.f36,.int .i64 s.f37,.int .i64 s.f38,.int .i64 s.f39,.int .i64 s.f40,.int .i64 s.f41,.int .i64 s.f42,.sl 1 s.f43,.int .i64 s.f44,.int .i64 s.f45,.sl 2 s.f46,.int .i64 s.f47,.bool s.f48,.int .i64 s.f49,.str s.f50,.int .i64 s.f51,.int .i64 s.f52,.int .i64 s.f53,.int .i64 s.f54,.int .i64 s.f55,.int .i64 s.f56,.int .i64 s.f57,.int .i64 s.f58,.int .i64 s.f59,.int .i64 s.f60,.int .i64 s.f61]
def svO (n:Int):Ob:=⟨12,false,n,[],0,0,0⟩
def svS (s:v9):v9:={s with ops:=s.ops++[svO (IntKind.i64.wrap (s.f4+1))],f4:=IntKind.i64.wrap (s.f4+1),f3:=s.f3++[[.int .i64 (IntKind.i64.wrap (s.f4+1)),.sl 7 (s.heap.map j8),.int .i64 (s.f62.length:Int)]],f62:=s.f62++[grO s]}
set_option maxHeartbeats 8000000 in
theorem a8g (C:Laid P) (s:v9) (h3:s.f3.length<10) (h62:s.f62.length<20) (ho:s.ops.length<100):j4 P G w8 [aS s] [] (.x6 [aS (svS s),pI 0]):=by
 refine i5 C (P9 C) rfl ?_
 repeat' ((conv=>whnf);first | (with_reducible refine sC (by kernel_rfl) ?_) | ((first | (with_reducible first | refine sB ?_ | refine o5 ?_ | refine o6 ?_) | refine sP (by rfl) ?_);first | refine oT ?_ | refine oF ?_ | (refine Or.inr (Or.inr ⟨fun hsp=>?_,fun hsp=>?_⟩) <;>(try simp only [nm,List.length_map] at hsp) <;>try subst hsp)) | refine ⟨_,_,b2m C _ _ _ _ _ _ _ _ _ _ _ _ _ _ _ _ _ _ _ _ _ _ _ _ _ _ _ _ _ _ _ _ _ _ _ _ _ _ _ _ _ _ _ _ _ _ _ _ _ _ _ _ _ _ _ _ _ _ _ _ _ _ _ _ _ _ _ [⟨_,_,_,_,_,_,_⟩] (by simp;omega),?_⟩ | refine sS (b0B (rows:=s.f3) (by rfl) (by rfl) (by rfl) (by rfl) (by omega) (by omega) (by rfl) (by simp)) ?_ | refine sS (b2S (rows:=(s.f3.take (s.f3.length:Int).toNat).drop (0:Int).toNat) (by rfl) (by first | exact f0 | exact d8 | exact d9 (by rfl) (by rfl)) (by (try simp only [ln]);omega)) ?_ | refine sS (b0B (rows:=s.f62) (by rfl) (by rfl) (by rfl) (by rfl) (by omega) (by omega) (by rfl) (by simp)) ?_ | refine sS (b2S (rows:=(s.f62.take (s.f62.length:Int).toNat).drop (0:Int).toNat) (by rfl) (by first | exact f0 | exact d8 | exact d9 (by rfl) (by rfl)) (by (try simp only [ln]);omega)) ?_ | fail)
 all_goals (conv=>whnf)
 all_goals ((repeat' (first | (with_reducible exact PV.le.refl _) | exact PV.le.emp _ | exact I3.nil | (with_reducible refine w5 ?_) | (with_reducible refine p8 ?_) | (refine I3.cons ?_ ?_) | (with_reducible refine j9 ?_) | (with_reducible refine x8 ?_) | (with_reducible refine A0 ?_) | (with_reducible refine y3 ?_) | (with_reducible refine q9 ?_) | (refine A3 ?_))) <;>(first | rfl | exact PV.le.refl _ | (simp [grO,svS,svO];done) | (refine le_of_eq ?_;simp [grO,svS,svO])))
end Go.Ab.Td
namespace Go.Ab.Td
set_option maxRecDepth 100000
set_option maxRecDepth 100000
open Go Go.Ab
variable {P:Program}
set_option linter.unusedSimpArgs false
attribute [local irreducible] e9
set_option maxHeartbeats 8000000 in
theorem a8D (C:Laid P) (s:v9) (l:List Sn) (lo:List Ob) (n:Int) (hop:s.ops=lo++[svO n]) (hq:s.f3=l.map w7) (hl:l.length≤1000) (ho:lo.length≤1000) (hp:plF n 0 l<0):j4 P G k7 [aS s] [] (.x6 [aS s,pI 34]):=by
 refine i5 C (v5 C) rfl ?_
 have kT:=a1g C s 1 (by decide) (by rw [hop];simp;omega) (by rw [hop];simp;omega)
 rw [show s.ops.drop (s.ops.length - (1:Int).toNat)=[svO n] by rw [hop];simp] at kT
 have kF:=N0 C s l n hq (by omega)
 repeat' ((conv=>whnf);first | (with_reducible refine sC (by kernel_rfl) ?_) | ((first | (with_reducible first | refine sB ?_ | refine o5 ?_ | refine o6 ?_) | refine sP (by rfl) ?_);first | refine oT ?_ | refine oF ?_ | (refine Or.inr (Or.inr ⟨fun hsp=>?_,fun hsp=>?_⟩) <;>(try simp only [nm,List.length_map] at hsp) <;>try subst hsp)) | refine ⟨_,_,kT,?_⟩ | refine ⟨_,_,kF,?_⟩ | fail)
 all_goals (conv=>whnf)
 all_goals ((repeat' (first | (with_reducible exact PV.le.refl _) | exact PV.le.emp _ | exact I3.nil | (with_reducible refine w5 ?_) | (with_reducible refine p8 ?_) | (refine I3.cons ?_ ?_) | (with_reducible refine j9 ?_) | (with_reducible refine x8 ?_) | (with_reducible refine A0 ?_) | (with_reducible refine y3 ?_) | (with_reducible refine q9 ?_) | (refine A3 ?_))) <;>(first | rfl | exact PV.le.refl _ | (simp [grO,svS,svO];done) | (refine le_of_eq ?_;simp [grO,svS,svO])))
def rsS (s:v9) (lo:List Ob) (xh:List Cl) (t:v9) (i j:Nat):v9:={s with ops:=lo,heap:=xh,f3:=s.f3.take i,f62:=s.f62.take j,f5:=t.f5,f6:=t.f6,f7:=t.f7,f8:=t.f8,f9:=t.f9,f10:=t.f10,f11:=t.f11,f12:=t.f12,f13:=t.f13,f14:=t.f14,f15:=t.f15,f16:=t.f16,f17:=t.f17,f18:=t.f18,f19:=t.f19,f20:=t.f20,f21:=t.f21,f22:=t.f22,f23:=t.f23,f24:=t.f24,f25:=t.f25,f26:=t.f26,f27:=t.f27,f28:=t.f28,f29:=t.f29,f30:=t.f30,f31:=t.f31,f32:=t.f32,f33:=t.f33,f34:=t.f34,f35:=t.f35,f36:=t.f36,f37:=t.f37,f38:=t.f38,f39:=t.f39,f40:=t.f40,f41:=t.f41,f42:=t.f42,f43:=t.f43,f44:=t.f44,f45:=t.f45,f46:=t.f46,f47:=t.f47,f48:=t.f48,f49:=t.f49,f50:=t.f50,f51:=t.f51,f52:=t.f52,f53:=t.f53,f54:=t.f54,f55:=t.f55,f56:=t.f56,f57:=t.f57,f58:=t.f58,f59:=t.f59,f60:=t.f60,f61:=t.f61}
set_option maxHeartbeats 8000000 in
theorem b3L (C:Laid P) (s:v9) (l:List Sn) (lo:List Ob) (n:Int) (hop:s.ops=lo++[svO n]) (hq:s.f3=l.map w7) (hl:l.length≤1000) (ho:lo.length≤1000) (hd:s.e6.length≤1000) (i j:Nat) (hp:plF n 0 l=(i:Int)) (hn:Int) (xh:List Cl) (hx:l[i]?=some ⟨hn,xh,(j:Int)⟩) (t:v9) (ht:s.f62[j]?=some (grO t)) (h1:¬ ∃ o ∈ lo,n7 xh.length o) (h2:¬ ∃ o ∈ s.e6,n7 xh.length o):j4 P G k7 [aS s] [] (.x6 [aS (rsS s lo xh t i j),pI 0]):=by
 refine i5 C (v5 C) rfl ?_
 have kT:=a1g C s 1 (by decide) (by rw [hop];simp;omega) (by rw [hop];simp;omega)
 rw [show s.ops.drop (s.ops.length - (1:Int).toNat)=[svO n] by rw [hop];simp] at kT
 have kF:=N0 C s l n hq (by omega)
 have kD:=a4V C s 1 (by decide) (by rw [hop];simp;omega) (by rw [hop];simp;omega)
 rw [show s.ops.take (s.ops.length - (1:Int).toNat)=lo by rw [hop];simp] at kD
 have k1:=G8 C lo ⟨hn,xh,(j:Int)⟩ (by omega)
 have k2:=G8 C s.e6 ⟨hn,xh,(j:Int)⟩ (by omega)
 rw [show tt (∃ o ∈ lo,n7 xh.length o)=false from I2.mpr h1] at k1
 rw [show tt (∃ o ∈ s.e6,n7 xh.length o)=false from I2.mpr h2] at k2
 rw [hp] at kF
 have hil:=(List.getElem?_eq_some_iff.1 hx).1
 have hjl:=(List.getElem?_eq_some_iff.1 ht).1
 have hl3:s.f3.length=l.length:=by rw [hq,List.length_map]
 have hrow:s.f3[(i:Int).toNat]?=some (w7 ⟨hn,xh,(j:Int)⟩):=by rw [hq];exact y9 (f:=w7) hx
 have hrow2:s.f62[(j:Int).toNat]?=some (grO t):=by simpa using ht
 repeat' ((conv=>whnf);first | (with_reducible refine sC (by kernel_rfl) ?_) | ((first | (with_reducible first | refine sB ?_ | refine o5 ?_ | refine o6 ?_) | refine sP (by rfl) ?_);first | refine oT ?_ | refine oF ?_ | (refine Or.inr (Or.inr ⟨fun hsp=>?_,fun hsp=>?_⟩) <;>(try simp only [nm,List.length_map] at hsp) <;>try subst hsp)) | refine ⟨_,_,kT,?_⟩ | refine ⟨_,_,kF,?_⟩ | refine ⟨_,_,kD,?_⟩ | refine ⟨_,_,k1,?_⟩ | refine ⟨_,_,k2,?_⟩ | refine sS (e7 (by rfl) (by rfl) (by omega) hrow) ?_ | refine sS (e7 (by rfl) (by rfl) (by omega) hrow2) ?_ | refine sS (b0B (rows:=s.f3) (l:=0) (h:=(i:Int)) (k:=(i:Int)) (by rfl) (by rfl) (by rfl) (by rfl) (by omega) (by omega) (by rfl) (by omega)) ?_ | refine sS (b0B (rows:=s.f62) (l:=0) (h:=(j:Int)) (k:=(j:Int)) (by rfl) (by rfl) (by rfl) (by rfl) (by omega) (by omega) (by rfl) (by omega)) ?_ | fail)
 all_goals (conv=>whnf)
 all_goals ((repeat' (first | (with_reducible exact PV.le.refl _) | exact PV.le.emp _ | exact I3.nil | (with_reducible refine w5 ?_) | (with_reducible refine p8 ?_) | (refine I3.cons ?_ ?_) | (with_reducible refine j9 ?_) | (with_reducible refine x8 ?_) | (with_reducible refine A0 ?_) | (with_reducible refine y3 ?_) | (with_reducible refine q9 ?_) | (refine A3 ?_))) <;>(first | rfl | exact PV.le.refl _ | (simp [grO,svS,svO];done) | (refine le_of_eq ?_;simp [grO,svS,svO])))
end Go.Ab.Td
