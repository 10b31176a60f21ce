/- A part of the proof: the texts TdZj. Under: nothing. -/
import Derived.Test.YtomfaadmmchdcaaGreatDoorG27
import Derived.Test.YtomfaadmmchdcaaGreatDoorG32
import Derived.Test.YtomfaadmmchdcaaGreatDoorG34
import Derived.Test.YtomfaadmmchdcaaGreatDoorG24
import Derived.Test.YtomfaadmmchdcaaGreatDoorG25
set_option linter.unusedVariables false
namespace Go.Ab.Td
set_option maxRecDepth 100000
set_option maxRecDepth 100000
open Go Go.Ab
variable {P:Program}
set_option linter.unusedSimpArgs false
set_option linter.unusedVariables false
set_option linter.unusedSectionVars false
theorem b9C {lo l:List Ob} {n:Int} (h:(l.length:Int)=n):List.take ((lo++l).length - n.toNat) (lo++l)=lo:=by
 have:(lo++l).length - n.toNat=lo.length:=by rw [List.length_append];omega
 rw [this,List.take_left'];rfl
abbrev DoR (P:Program) (s:B8) (op:List UInt8) (t:B8) (e:Int):Prop:=l3 P G C5 [aS s,.str op] [] (.o0 [aS t,pI e])
abbrev a8w (s:B8) (l:List Ob) (h:List Cl):B8:={s with ops:=l,heap:=h}
theorem b7z (C:Laid P) {s:B8} {lo l:List Ob} {n:Int} (hop:s.ops=lo++l) (hn:(l.length:Int)=n) (hl:lo.length+l.length≤1000) (h:List Cl) (out:List Ob) (ho:lo.length+out.length≤100):l3 P G g8 [aS s,pI n,.sl 7 (List.map j8 h),.sl 7 (List.map i4 out)] [] (.o0 [aS (a8w s (lo++out) h),pI 0]):=by
 have hlen:s.ops.length=lo.length+l.length:=by rw [hop,List.length_append]
 have k:=b8N C s n h out (by omega) (by omega) (by omega) (by omega)
 rw [hop,b9C hn] at k
 exact k
theorem c3I (C:Laid P) {s:B8} {lo l:List Ob} {n:Int} (hop:s.ops=lo++l) (hn:(l.length:Int)=n) (hl:lo.length+l.length≤1000) (h:List Cl) (ho:lo.length≤100):l3 P G g8 [aS s,pI n,.sl 7 (List.map j8 h),.emp 7] [] (.o0 [aS (a8w s lo h),pI 0]):=by
 have k:=b7z C hop hn hl h [] (by simpa using ho)
 rw [List.append_nil] at k
 exact b4C k (.cons (.refl _) (.cons (.refl _) (.cons (.refl _) (.cons (.emp 7) .nil))))
theorem fits_c (C:Laid P) {h:List Cl} {o:Ob} (hf:fits h o) (on:o.n<9223372036854775808):l3 P G E2 [.sl 7 (List.map j8 h),aO o] [] (.bool true):=by
 have k:=a9r C h o on
 rw [b1B.mpr hf] at k
 exact k
theorem kKey {h:List Cl} {o:Ob} (hf:fits h o):(n4 h o).2=0∨(n4 h o).2=22∨(n4 h o).2=23:=by
 unfold n4
 rw [if_neg (fun x=>x hf)]
 split
 ·split
  ·exact .inr (.inr rfl)
  ·exact .inl rfl
 ·split
  ·exact .inr (.inl rfl)
  ·exact .inl rfl
section
variable (C:Laid P) {m:Nat} {s:B8} (t:DS m s) (hm:m≤20000)
include C t hm
theorem pd_begin_type (lo:List Ob) (a:Ob) (hop:s.ops=lo++[a]) (h9:a.kind≠9):DoR P s [98,101,103,105,110] s 22:=by
 have ol:=t.ol
 have hlo:lo.length+1≤100:=by have:=congrArg List.length hop;simp at this;omega
 have ko:=ok_opnd_type C s 1 1 false lo [a] hop rfl (by simp;omega) (by decide) (by decide) (⟨a,by simp,h9⟩)
 exact ok_D_begin C s s _ (ok_d_begin_err C s _ _ (by decide) (ko))
theorem pd_begin (lo:List Ob) (a:Ob) (hop:s.ops=lo++[a]) (h0:a.kind=9) (hd:s.d5.length<20):DoR P s [98,101,103,105,110] {a8w s lo s.heap with d5:=s.d5++[a]} 0:=by
 have ol:=t.ol
 have hlo:lo.length+1≤100:=by have:=congrArg List.length hop;simp at this;omega
 have hs:=t.dh.sm (by omega)
 have ko:=ok_opnd C s 1 1 lo [a] hop rfl (by simp;omega) (by decide) (by decide) (by intro p hp;simp at hp;subst hp;assumption)
 exact ok_D_begin C s _ _ (ok_d_begin_ok C s a _ (a8w s lo s.heap) 0 rfl ko hd hd (c3I C hop rfl (by simp;omega) s.heap (by omega)))
theorem pd_def_key (lo:List Ob) (a b:Ob) (hop:s.ops=lo++[a,b]) (he:(n4 s.heap a).2≠0):DoR P s [100,101,102] s (n4 s.heap a).2:=by
 have ol:=t.ol
 have hlo:lo.length+2≤100:=by have:=congrArg List.length hop;simp at this;omega
 have ko:=b0L C s 2 0 lo [a,b] hop rfl (by simp;omega) (by decide) (by decide) (by intro p hp;simp at hp) a rfl (t.on a (by rw [hop];simp)) he
 exact ok_D_def C s s _ (ok_d_def_err C s _ _ he (ko))
theorem pd_def_full (lo:List Ob) (a b:Ob) (hop:s.ops=lo++[a,b]) (hk:(n4 s.heap a).2=0) (dl:List Ob) (d:Ob) (hd:s.d5=dl++[d]) (hp:Y2 (cellAt s.heap d) (n4 s.heap a).1 b=none):DoR P s [100,101,102] s 30:=by
 have ol:=t.ol
 have hlo:lo.length+2≤100:=by have:=congrArg List.length hop;simp at this;omega
 have hs:=t.dh.sm (by omega)
 have ko:=a5a C s 2 0 lo [a,b] hop rfl (by simp;omega) (by decide) (by decide) (by intro p hp;simp at hp) a rfl (t.on a (by rw [hop];simp)) hk
 have hdm:d ∈ s.d5:=by rw [hd];simp
 have kc:=a1j C s dl d hd (by have:=t.dl;have:=congrArg List.length hd;simp at this;omega)
 exact ok_D_def C s _ _ (ok_d_def_ok C s a b _ d _ _ ko kc (b0Y C s 2 d (n4 s.heap a).1 b 30 (by decide) (a8i C s.heap d (t.dn d hdm) (n4 s.heap a).1 b hs (t.dv d hdm) hp)))
theorem pd_def (lo:List Ob) (a b:Ob) (hop:s.ops=lo++[a,b]) (hk:(n4 s.heap a).2=0) (dl:List Ob) (d:Ob) (hd:s.d5=dl++[d]) (c:Cl) (hp:Y2 (cellAt s.heap d) (n4 s.heap a).1 b=some c):DoR P s [100,101,102] (a8w s lo (s.heap.set d.ref.toNat c)) 0:=by
 have ol:=t.ol
 have hlo:lo.length+2≤100:=by have:=congrArg List.length hop;simp at this;omega
 have hs:=t.dh.sm (by omega)
 have ko:=a5a C s 2 0 lo [a,b] hop rfl (by simp;omega) (by decide) (by decide) (by intro p hp;simp at hp) a rfl (t.on a (by rw [hop];simp)) hk
 have hdm:d ∈ s.d5:=by rw [hd];simp
 have kc:=a1j C s dl d hd (by have:=t.dl;have:=congrArg List.length hd;simp at this;omega)
 exact ok_D_def C s _ _ (ok_d_def_ok C s a b _ d _ _ ko kc (a6I C s 2 d (n4 s.heap a).1 b _ _ _ (a7I C s.heap d (t.dn d hdm) (n4 s.heap a).1 b c hs (t.dv d hdm) hp) (c3I C hop rfl (by simp;omega) (s.heap.set d.ref.toNat c) (by omega))))
theorem b7U (lo:List Ob) (a:Ob) (hop:s.ops=lo++[a]) (hk:(n4 s.heap a).2=0) (i:Nat) (d v:Ob) (ht:a8v s.heap s.d5 (n4 s.heap a).1 i d v):DoR P s [108,111,97,100] (a8w s (lo++[v]) s.heap) 0:=by
 have ol:=t.ol
 have hlo:lo.length+1≤100:=by have:=congrArg List.length hop;simp at this;omega
 have hs:=t.dh.sm (by omega)
 have ko:=a5a C s 1 0 lo [a] hop rfl (by simp;omega) (by decide) (by decide) (by intro p hp;simp at hp) a rfl (t.on a (by rw [hop];simp)) hk
 have kf:=a7e C s (n4 s.heap a).1 hs (by have:=t.dl;omega) t.dv t.dn i d v ht
 exact b8M C s _ _ (b4B C s a _ d v _ _ ko kf (b7z C hop rfl (by simp;omega) s.heap [v] (by simp;omega)))
theorem pd_known_yes (lo:List Ob) (a b:Ob) (hop:s.ops=lo++[a,b]) (h0:a.kind=9) (hk:(n4 s.heap b).2=0) (v:Ob) (hl:look (cellAt s.heap a) (n4 s.heap b).1=some v):DoR P s [107,110,111,119,110] (a8w s (lo++[(⟨2,false,1,[],0,0,0⟩:Ob)]) s.heap) 0:=by
 have ol:=t.ol
 have hlo:lo.length+2≤100:=by have:=congrArg List.length hop;simp at this;omega
 have hs:=t.dh.sm (by omega)
 have ko:=a5a C s 2 1 lo [a,b] hop rfl (by simp;omega) (by decide) (by decide) (by intro p hp;simp at hp;subst hp;assumption) b rfl (t.on b (by rw [hop];simp)) hk
 have kF:=a9q C s.heap a (t.on a (by rw [hop];simp)) (n4 s.heap b).1 hs (c6u (t.of' a (by rw [hop];simp)) h0)
 rw [hl] at kF
 exact ok_D_known C s _ _ (ok_d_known_true C s a b _ _ _ _ ko kF (b7z C hop rfl (by simp;omega) s.heap [(⟨2,false,1,[],0,0,0⟩:Ob)] (by simp;omega)))
theorem pd_known_no (lo:List Ob) (a b:Ob) (hop:s.ops=lo++[a,b]) (h0:a.kind=9) (hk:(n4 s.heap b).2=0) (hl:look (cellAt s.heap a) (n4 s.heap b).1=none):DoR P s [107,110,111,119,110] (a8w s (lo++[(⟨2,false,0,[],0,0,0⟩:Ob)]) s.heap) 0:=by
 have ol:=t.ol
 have hlo:lo.length+2≤100:=by have:=congrArg List.length hop;simp at this;omega
 have hs:=t.dh.sm (by omega)
 have ko:=a5a C s 2 1 lo [a,b] hop rfl (by simp;omega) (by decide) (by decide) (by intro p hp;simp at hp;subst hp;assumption) b rfl (t.on b (by rw [hop];simp)) hk
 have kF:=a9q C s.heap a (t.on a (by rw [hop];simp)) (n4 s.heap b).1 hs (c6u (t.of' a (by rw [hop];simp)) h0)
 rw [hl] at kF
 exact ok_D_known C s _ _ (ok_d_known_false C s a b _ _ _ _ ko kF (b7z C hop rfl (by simp;omega) s.heap [(⟨2,false,0,[],0,0,0⟩:Ob)] (by simp;omega)))
theorem pd_undef_no (lo:List Ob) (a b:Ob) (hop:s.ops=lo++[a,b]) (h0:a.kind=9) (hk:(n4 s.heap b).2=0) (hi:i3 (n4 s.heap b).1 0 (cellAt s.heap a).keys<0∨(cellAt s.heap a).B2.length≤i3 (n4 s.heap b).1 0 (cellAt s.heap a).keys):DoR P s [117,110,100,101,102] (a8w s lo s.heap) 0:=by
 have ol:=t.ol
 have hlo:lo.length+2≤100:=by have:=congrArg List.length hop;simp at this;omega
 have hs:=t.dh.sm (by omega)
 have ko:=a5a C s 2 1 lo [a,b] hop rfl (by simp;omega) (by decide) (by decide) (by intro p hp;simp at hp;subst hp;assumption) b rfl (t.on b (by rw [hop];simp)) hk
 exact ok_D_undef C s _ _ (ok_d_undef_ok C s a b _ _ _ _ ko (ok_heap_Remove_no C s.heap a (n4 s.heap b).1 hs (t.on a (by rw [hop];simp)) (c6u (t.of' a (by rw [hop];simp)) h0) hi) (c3I C hop rfl (by simp;omega) s.heap (by omega)))
theorem pd_undef (lo:List Ob) (a b:Ob) (hop:s.ops=lo++[a,b]) (h0:a.kind=9) (hk:(n4 s.heap b).2=0) (q:Nat) (hi:i3 (n4 s.heap b).1 0 (cellAt s.heap a).keys=(q:Int)) (hik:q<(cellAt s.heap a).keys.length) (hiv:q<(cellAt s.heap a).B2.length):DoR P s [117,110,100,101,102] (a8w s lo (s.heap.set a.ref.toNat (a6a (cellAt s.heap a) q))) 0:=by
 have ol:=t.ol
 have hlo:lo.length+2≤100:=by have:=congrArg List.length hop;simp at this;omega
 have hs:=t.dh.sm (by omega)
 have ko:=a5a C s 2 1 lo [a,b] hop rfl (by simp;omega) (by decide) (by decide) (by intro p hp;simp at hp;subst hp;assumption) b rfl (t.on b (by rw [hop];simp)) hk
 exact ok_D_undef C s _ _ (ok_d_undef_ok C s a b _ _ _ _ ko (pg C (ok_heap_Remove_gp C s.heap a (n4 s.heap b).1 hs (t.on a (by rw [hop];simp)) (c6u (t.of' a (by rw [hop];simp)) h0) q hi hik hiv)) (c3I C hop rfl (by simp;omega) (s.heap.set a.ref.toNat (a6a (cellAt s.heap a) q)) (by omega)))
theorem b2o (lo:List Ob) (a:Ob) (hop:s.ops=lo++[a]) (hk:(n4 s.heap a).2=0) (i:Nat) (d v:Ob) (ht:a8v s.heap s.d5 (n4 s.heap a).1 i d v) (h99:lo.length≤98):DoR P s [119,104,101,114,101] (a8w s (lo++[d,(⟨2,false,1,[],0,0,0⟩:Ob)]) s.heap) 0:=by
 have ol:=t.ol
 have hlo:lo.length+1≤100:=by have:=congrArg List.length hop;simp at this;omega
 have hs:=t.dh.sm (by omega)
 have ko:=a5a C s 1 0 lo [a] hop rfl (by simp;omega) (by decide) (by decide) (by intro p hp;simp at hp) a rfl (t.on a (by rw [hop];simp)) hk
 have kf:=a7e C s (n4 s.heap a).1 hs (by have:=t.dl;omega) t.dv t.dn i d v ht
 exact a8g C s _ _ (b2h C s a _ d v _ _ ko kf (b7z C hop rfl (by simp;omega) s.heap [d,(⟨2,false,1,[],0,0,0⟩:Ob)] (by simp;omega)))
theorem pd_maxlength (lo:List Ob) (a:Ob) (hop:s.ops=lo++[a]) (h0:a.kind=9):DoR P s [109,97,120,108,101,110,103,116,104] (a8w s (lo++[(⟨3,false,(cellAt s.heap a).max,[],0,0,0⟩:Ob)]) s.heap) 0:=by
 have ol:=t.ol
 have hlo:lo.length+1≤100:=by have:=congrArg List.length hop;simp at this;omega
 have hs:=t.dh.sm (by omega)
 have ko:=ok_opnd C s 1 1 lo [a] hop rfl (by simp;omega) (by decide) (by decide) (by intro p hp;simp at hp;subst hp;assumption)
 have fa:=t.of' a (by rw [hop];simp)
 obtain ⟨c,hc,hce, -⟩:=c0a t.dh.v fa h0
 rw [hce]
 exact ok_D_maxlength C s _ _ (ok_d_maxlength_ok C s _ _ (ok_d_counted C s _ a _ _ _ _ ko (fits_c C fa (t.on a (by rw [hop];simp))) (a7g fa.1).1 c hc (ok_dict_scope_maxlength_1 C c) (b7z C hop rfl (by simp;omega) s.heap [(⟨3,false,c.max,[],0,0,0⟩:Ob)] (by simp;omega))))
theorem pd_length (lo:List Ob) (a:Ob) (hop:s.ops=lo++[a]) (h0:a.kind=9):DoR P s [108,101,110,103,116,104] (a8w s (lo++[(⟨3,false,((cellAt s.heap a).keys.length:Int),[],0,0,0⟩:Ob)]) s.heap) 0:=by
 have ol:=t.ol
 have hlo:lo.length+1≤100:=by have:=congrArg List.length hop;simp at this;omega
 have hs:=t.dh.sm (by omega)
 have ko:=ok_opnd C s 1 1 lo [a] hop rfl (by simp;omega) (by decide) (by decide) (by intro p hp;simp at hp;subst hp;assumption)
 have fa:=t.of' a (by rw [hop];simp)
 obtain ⟨c,hc,hce, -⟩:=c0a t.dh.v fa h0
 rw [hce]
 exact ok_D_length C s _ _ (ok_d_length_ok C s _ _ (ok_d_counted C s _ a _ _ _ _ ko (fits_c C fa (t.on a (by rw [hop];simp))) (a7g fa.1).1 c hc (ok_dict_scope_length_1 C c) (b7z C hop rfl (by simp;omega) s.heap [(⟨3,false,(c.keys.length:Int),[],0,0,0⟩:Ob)] (by simp;omega))))
theorem pd_get (lo:List Ob) (a b:Ob) (hop:s.ops=lo++[a,b]) (h0:a.kind=9) (hk:(n4 s.heap b).2=0) (v:Ob) (hl:look (cellAt s.heap a) (n4 s.heap b).1=some v):DoR P s [103,101,116] (a8w s (lo++[v]) s.heap) 0:=by
 have ol:=t.ol
 have hlo:lo.length+2≤100:=by have:=congrArg List.length hop;simp at this;omega
 have hs:=t.dh.sm (by omega)
 have ko:=a5a C s 2 1 lo [a,b] hop rfl (by simp;omega) (by decide) (by decide) (by intro p hp;simp at hp;subst hp;assumption) b rfl (t.on b (by rw [hop];simp)) hk
 have kF:=a9q C s.heap a (t.on a (by rw [hop];simp)) (n4 s.heap b).1 hs (c6u (t.of' a (by rw [hop];simp)) h0)
 rw [hl] at kF
 exact ok_D_get C s _ _ (ok_d_get_ok C s a b _ _ _ _ ko kF (b7z C hop rfl (by simp;omega) s.heap [v] (by simp;omega)))
theorem pd_put_key (lo:List Ob) (a b c:Ob) (hop:s.ops=lo++[a,b,c]) (h0:a.kind=9) (he:(n4 s.heap b).2≠0):DoR P s [112,117,116] s (n4 s.heap b).2:=by
 have ol:=t.ol
 have hlo:lo.length+3≤100:=by have:=congrArg List.length hop;simp at this;omega
 have ko:=b0L C s 3 1 lo [a,b,c] hop rfl (by simp;omega) (by decide) (by decide) (by intro p hp;simp at hp;subst hp;assumption) b rfl (t.on b (by rw [hop];simp)) he
 exact ok_D_put C s s _ (ok_d_put_err C s _ _ he (ko))
theorem pd_put_full (lo:List Ob) (a b c:Ob) (hop:s.ops=lo++[a,b,c]) (h0:a.kind=9) (hk:(n4 s.heap b).2=0) (hp:Y2 (cellAt s.heap a) (n4 s.heap b).1 c=none):DoR P s [112,117,116] s 30:=by
 have ol:=t.ol
 have hlo:lo.length+3≤100:=by have:=congrArg List.length hop;simp at this;omega
 have hs:=t.dh.sm (by omega)
 have ko:=a5a C s 3 1 lo [a,b,c] hop rfl (by simp;omega) (by decide) (by decide) (by intro p hp;simp at hp;subst hp;assumption) b rfl (t.on b (by rw [hop];simp)) hk
 exact ok_D_put C s _ _ (ok_d_put_ok C s a b c _ _ _ ko (b0Y C s 3 a (n4 s.heap b).1 c 30 (by decide) (a8i C s.heap a (t.on a (by rw [hop];simp)) (n4 s.heap b).1 c hs (c6u (t.of' a (by rw [hop];simp)) h0) hp)))
theorem pd_put (lo:List Ob) (a b c:Ob) (hop:s.ops=lo++[a,b,c]) (h0:a.kind=9) (hk:(n4 s.heap b).2=0) (c1:Cl) (hp:Y2 (cellAt s.heap a) (n4 s.heap b).1 c=some c1):DoR P s [112,117,116] (a8w s lo (s.heap.set a.ref.toNat c1)) 0:=by
 have ol:=t.ol
 have hlo:lo.length+3≤100:=by have:=congrArg List.length hop;simp at this;omega
 have hs:=t.dh.sm (by omega)
 have ko:=a5a C s 3 1 lo [a,b,c] hop rfl (by simp;omega) (by decide) (by decide) (by intro p hp;simp at hp;subst hp;assumption) b rfl (t.on b (by rw [hop];simp)) hk
 exact ok_D_put C s _ _ (ok_d_put_ok C s a b c _ _ _ ko (a6I C s 3 a (n4 s.heap b).1 c _ _ _ (a7I C s.heap a (t.on a (by rw [hop];simp)) (n4 s.heap b).1 c c1 hs (c6u (t.of' a (by rw [hop];simp)) h0) hp) (c3I C hop rfl (by simp;omega) (s.heap.set a.ref.toNat c1) (by omega))))
theorem pd_currentdict (dl:List Ob) (d:Ob) (hd:s.d5=dl++[d]) (h1:s.ops.length<100):DoR P s [99,117,114,114,101,110,116,100,105,99,116] {s with ops:=s.ops++[d]} 0:=by
 have kc:=a1j C s dl d hd (by have:=t.dl;have:=congrArg List.length hd;simp at this;omega)
 exact ok_D_currentdict C s _ _ (ok_d_currentdict_ok C s d _ _ kc (b3g C s [d] (by simp;omega)))
theorem pd_countdictstack (h1:s.ops.length<100):DoR P s [99,111,117,110,116,100,105,99,116,115,116,97,99,107] {s with ops:=s.ops++[(⟨3,false,(s.d5.length:Int),[],0,0,0⟩:Ob)]} 0:=by
 exact ok_D_countdictstack C s _ _ (ok_d_countdictstack_ok C s _ _ (b3g C s [(⟨3,false,(s.d5.length:Int),[],0,0,0⟩:Ob)] (by simp;omega)))
theorem pd_end (dl:List Ob) (d:Ob) (hd:s.d5=dl++[d]) (h2:2≤dl.length):DoR P s [101,110,100] {s with d5:=dl} 0:=ok_D_end C s _ _ (ok_d_end_ok C s dl d hd h2 (by have:=t.dl;have:=congrArg List.length hd;simp at this;omega))
end
end Go.Ab.Td
