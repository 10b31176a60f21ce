/- A part of the proof: the texts TdVz, TdVzx, TdW18, TdL. Under: nothing. -/
import Derived.Test.YtngmifmcohmfmaaDoorG30
import Derived.Test.YtngmifmcohmfmaaDoorG37
import Derived.Test.YtngmifmcohmfmaaDoorG38
import Derived.Test.YtngmifmcohmfmaaDoorG39
import Derived.Test.YtngmifmcohmfmaaDoorG40
import Derived.Test.YtngmifmcohmfmaaDoorG07
import Derived.Test.YtngmifmcohmfmaaDoorG05
import Derived.KernelRfl
import Derived.Test.YtngmifmcohmfmaaDoorG25
set_option linter.unusedVariables false
namespace Go.Ab.Td
set_option maxRecDepth 100000
set_option maxRecDepth 100000
open Go Go.Ab
variable {P:Program}
set_option linter.unusedSimpArgs false
theorem c4i {h:List Cl} {o:Ob} (hf:fits h o) (hk:o.kind=6) {a:Int} {s:List UInt8} (hr:a2M o a s.length=0):o8 0 (a5t h o a s)=o8 0 h∧S6 h (a5t h o a s):=by
 obtain ⟨h0,h2⟩:=a6k hf.1 hr
 obtain ⟨q1,q2,q3⟩:=W6 hf.1
 obtain ⟨c,hc,ec,hck,hcl⟩:=b2i hf (by rw [hk];decide)
 rw [hk] at hck
 have hck1:c.kind=1:=hck
 have hlen:o.off+o.len≤(c.bytes.length:Int):=by
  have:=hcl (by omega)
  rwa [Cl.length,if_pos hck1] at this
 have e1:(T5 c.bytes (o.off+a).toNat s).length=c.bytes.length:=a7p (by omega)
 unfold a5t
 rw [ec]
 refine ⟨b0m (by unfold Cl.size;dsimp only;rw [e1]) h _ 0 hc,S6.set hc rfl (.inr ?_)⟩
 unfold Cl.length;dsimp only;rw [e1]
theorem c4j {h:List Cl} {o:Ob} (hf:fits h o) (hk:o.kind=7) {a:Int} {l:List Ob} (hr:a2M o a l.length=0):o8 0 (a5u h o a l)=o8 0 h∧S6 h (a5u h o a l):=by
 obtain ⟨h0,h2⟩:=a6k hf.1 hr
 obtain ⟨q1,q2,q3⟩:=W6 hf.1
 obtain ⟨c,hc,ec,hck,hcl⟩:=b2i hf (by rw [hk];decide)
 rw [hk] at hck
 have hck1:c.kind=2:=hck
 have hlen:o.off+o.len≤(c.items.length:Int):=by
  have:=hcl (by omega)
  rwa [Cl.length,if_neg (by omega)] at this
 have e1:(T5 c.items (o.off+a).toNat l).length=c.items.length:=a7p (by omega)
 unfold a5u
 rw [ec]
 refine ⟨b0m (by unfold Cl.size;dsimp only;rw [e1]) h _ 0 hc,S6.set hc rfl (.inr ?_)⟩
 unfold Cl.length;dsimp only;rw [e1]
theorem a8H {h:List Cl} (hn:∀ c ∈ h,nC c) (o:Ob):nC (cellAt h o):=by
 unfold cellAt
 cases hc:h[o.ref.toNat]? with
 | none=>exact ⟨by simp [cl0],by simp [cl0],by simp [cl0]⟩
 | some c=>exact hn c (List.mem_of_getElem? hc)
theorem SH.c9r {h:List Cl} (t:SH h) {o:Ob} (hf:fits h o) (hk:o.kind=6) {a:Int} {s:List UInt8} (hr:a2M o a s.length=0):SH (a5t h o a s)∧S6 h (a5t h o a s):=by
 obtain ⟨e,ho⟩:=c4i hf hk hr
 have el:(a5t h o a s).length=h.length:=by unfold a5t;rw [List.length_set]
 exact ⟨⟨(c4N t.v hf hk hr).1,by rw [el];exact t.len,by rw [e,el];exact t.tot,b8D (c:={cellAt h o with bytes:=T5 (cellAt h o).bytes (o.off+a).toNat s}) t.nc ⟨(a8H t.nc o).1,(a8H t.nc o).2.1,(a8H t.nc o).2.2⟩ _⟩,ho⟩
theorem SH.c9s {h:List Cl} (t:SH h) {o:Ob} (hf:fits h o) (hk:o.kind=7) {a:Int} {l:List Ob} (hl:∀ x ∈ l,fits h x) (hn:∀ x ∈ l,x.n<9223372036854775808) (hr:a2M o a l.length=0):SH (a5u h o a l)∧S6 h (a5u h o a l):=by
 obtain ⟨e,ho⟩:=c4j hf hk hr
 have el:(a5u h o a l).length=h.length:=by unfold a5u;rw [List.length_set]
 refine ⟨⟨(c4O t.v hf hk hl hr).1,by rw [el];exact t.len,by rw [e,el];exact t.tot,b8D (c:={cellAt h o with items:=T5 (cellAt h o).items (o.off+a).toNat l}) t.nc ⟨fun x hx=>?_,(a8H t.nc o).2.1,(a8H t.nc o).2.2⟩ _⟩,ho⟩
 dsimp only at hx
 unfold T5 at hx
 rcases List.mem_append.1 hx with hx | hx
 ·rcases List.mem_append.1 hx with hx | hx
  ·exact (a8H t.nc o).1 x (List.mem_of_mem_take hx)
  ·exact hn x hx
 ·exact (a8H t.nc o).1 x (List.mem_of_mem_drop hx)
def c5X (w:Int) (x:Wd):List PV:=[.int .u8 w,.int .u8 x.K,.int .u8 x.A,.int .u8 x.B,.int .i32 x.N,.str x.S]
theorem c5S {h:List Cl} {o:Ob} (hf:fits h o) (hl:0<o.len):a2M o 0 1=0:=by
 obtain ⟨q1,q2,q3⟩:=W6 hf.1
 unfold a2M
 rw [if_neg]
 rw [wrap_small (by omega) (by omega)]
 omega
theorem c2W:c6G (nmO [110,101,119]):=⟨by simp [nmO],by simp [nmO],c2X _⟩
end Go.Ab.Td
namespace Go.Ab.Td
set_option maxRecDepth 100000
set_option maxRecDepth 100000
open Go Go.Ab
variable {P:Program}
set_option linter.unusedSimpArgs false
theorem b8c (C:Laid P) {F:Prop} {m:Nat} {s:x6} {l:List Sn} {ts:List x6} (t:SI F m s l ts) (w:Int) (hw:0≤w∧w<256) (x:Wd) (h3:3≤w.tmod 8):∃ s',SI F m s' l ts∧(∀ p ∈ s'.ops,p ∈ s.ops∨p.kind≠12)∧(s'.f4=s.f4∧∃ d',s'.e8=s.e8++d'∧∀ p ∈ d',p.kind=9)∧j5 P G i7 [.agg (c5X w x),aS s] [] (aS s'):=by
 obtain ⟨K,A,B,N,S,hA,hB,hN⟩:=x
 have h7:=Int.tmod_lt_of_pos w (show (0:Int)<8 by decide)
 have ko:=T4 C s.heap t.sh.sm K A B N S hA hB hN
 have fo:=b4Z t.sh.vh K A B N hA hB hN
 have on:=b9T s.heap K A B N hA hN
 have ol:=t.ol
 have k12:=b9S s.heap K A B N
 generalize a9O s.heap K A B N=o at ko fo on k12
 have same:∀ p ∈ s.ops,p ∈ s.ops∨p.kind≠12:=fun p hp=>.inl hp
 have hr:w.tmod 8=3∨w.tmod 8=4∨w.tmod 8=5∨w.tmod 8=6∨w.tmod 8=7:=by omega
 rcases hr with hr | hr | hr | hr | hr
 ·by_cases hl:s.ops.length<100
  ·refine ⟨_,t.b3M (ops:=s.ops++[o]) (by simp;omega) (fun hF p hp=>?_) (fun p hp=>?_),fun p hp=>(List.mem_append.1 hp).imp id (fun hq=>by simp only [List.mem_singleton] at hq;subst hq;exact k12),⟨rfl,[],(List.append_nil _).symm,by simp⟩,b3n C s w K A B N S o ko hr hl⟩
   ·rcases List.mem_append.1 hp with hp | hp
    ·exact t.of' hF p hp
    ·simp only [List.mem_singleton] at hp;subst hp;exact fo
   ·rcases List.mem_append.1 hp with hp | hp
    ·exact t.on p hp
    ·simp only [List.mem_singleton] at hp;subst hp;exact on
  ·exact ⟨_,t,same,⟨rfl,[],(List.append_nil _).symm,by simp⟩,b3l C s w K A B N S o ko hr hl⟩
 ·have r2:0≤A.tmod 2∧A.tmod 2<2:=⟨Int.tmod_nonneg _ hA.1,Int.tmod_lt_of_pos _ (by decide)⟩
  have e:IntKind.i64.wrap (1+IntKind.i64.wrap (A.tmod 2))=1+A.tmod 2:=by rw [wrap_small (v:=A.tmod 2) (by omega) (by omega),wrap_small (by omega) (by omega)]
  obtain ⟨n,hn⟩:∃ n:Nat,(if IntKind.i64.wrap (1+IntKind.i64.wrap (A.tmod 2))<((List.map g8 s.ops).length:Int) then IntKind.i64.wrap (1+IntKind.i64.wrap (A.tmod 2)) else ((List.map g8 s.ops).length:Int))=(n:Int)∧n≤s.ops.length:=by
   rw [e,List.length_map]
   by_cases hl:1+A.tmod 2<(s.ops.length:Int)
   ·rw [if_pos hl];exact ⟨(1+A.tmod 2).toNat,by omega,by omega⟩
   ·rw [if_neg hl];exact ⟨s.ops.length,rfl,Nat.le_refl _⟩
  exact ⟨_,t.b3M (ops:=s.ops.take (s.ops.length - n)) (by rw [List.length_take];omega) (fun hF p hp=>t.of' hF p (List.mem_of_mem_take hp)) (fun p hp=>t.on p (List.mem_of_mem_take hp)),fun p hp=>.inl (List.mem_of_mem_take hp),⟨rfl,[],(List.append_nil _).symm,by simp⟩,b4A C s w K A B N S o ko hr n hn.2 ol hn.1⟩
 ·obtain ⟨c,⟨c1,c2,c3,c4⟩,kc⟩:=c0L C t.sh.vh K A B N S hA hB hN
  by_cases hl:s.heap.length<60∧s.ops.length<100
  ·have th:=t.b2z (t.sh.app hl.1 c1 c2 c3 c4) (S6.app s.heap [c])
   by_cases hk:c.kind=1
   ·have hb:=((a6M c2).1 hk).2
    have hi:=((a6M c2).1 hk).1
    refine ⟨_,th.b3M (ops:=s.ops++[(⟨6,false,0,[],(s.heap.length:Int),0,(c.bytes.length:Int)⟩:Ob)]) (by simp;omega) (fun hF p hp=>?_) (fun p hp=>?_),fun p hp=>(List.mem_append.1 hp).imp id (fun hq=>by simp only [List.mem_singleton] at hq;subst hq;simp),⟨rfl,[],(List.append_nil _).symm,by simp⟩,b6q C s w K A B N S o ko hr c kc hl.1 hl.2 hk⟩
    ·rcases List.mem_append.1 hp with hp | hp
     ·exact th.of' hF p hp
     ·simp only [List.mem_singleton] at hp;subst hp
      refine ⟨?_,fun _=>⟨c,?_,hk,fun _=>?_⟩⟩
      ·unfold Ob.right Ob.blank;simp;omega
      ·show (s.heap++[c])[((s.heap.length:Int)).toNat]?=some c
       simp
      ·unfold Cl.length;rw [if_pos hk];simp
    ·rcases List.mem_append.1 hp with hp | hp
     ·exact t.on p hp
     ·simp only [List.mem_singleton] at hp;subst hp
      show (0:Int)<_;decide
   ·exact ⟨_,th,same,⟨rfl,[],(List.append_nil _).symm,by simp⟩,b4x C s w K A B N S o ko hr c kc hl.1 hl.2 hk⟩
  ·exact ⟨_,t,same,⟨rfl,[],(List.append_nil _).symm,by simp⟩,b1N C s w K A B N S o ko hr c kc hl⟩
 ·by_cases h6:o.kind=6∧0<o.len
  ·have rm:=c5S fo h6.2
   obtain ⟨q1,q2⟩:=t.sh.c9r fo h6.1 (a:=0) (s:=[122]) rm
   exact ⟨_,t.b2z q1 q2,same,⟨rfl,[],(List.append_nil _).symm,by simp⟩,b3k C s w K A B N S o ko hr t.sh.sm on h6.1 h6.2 (by unfold a8X;rw [if_neg (fun y=>y fo),if_pos (by rw [h6.1];simp)]) rm⟩
  by_cases h7':o.kind=7∧0<o.len
  ·have rm:=c5S fo h7'.2
   obtain ⟨q1,q2⟩:=t.sh.c9s fo h7'.1 (a:=0) (l:=[o]) (by simpa using fo) (by simpa using on) rm
   exact ⟨_,t.b2z q1 q2,same,⟨rfl,[],(List.append_nil _).symm,by simp⟩,b3m C s w K A B N S o ko hr t.sh.sm on h7'.1 h7'.2 (by unfold a8X;rw [if_neg (fun y=>y fo),if_pos (by rw [h7'.1];simp)]) rm⟩
  by_cases h9:o.kind=9
  ·obtain ⟨c,hc,ec,hck, -⟩:=c2D fo h9
   have hrr:=a5x fo.1
   have hlt:=(List.getElem?_eq_some_iff.1 hc).1
   have hm:=List.mem_of_getElem? hc
   cases hp:a2L c (nmO [110,101,119]) o with
   | none=>exact ⟨_,t,same,⟨rfl,[],(List.append_nil _).symm,by simp⟩,b0O C s w K A B N S o ko hr t.sh.sm on h9 hrr.1 (by omega) (by rw [ec];exact hp)⟩
   | some c2=>
     obtain ⟨r2,k32,hsz, -⟩:=c0W (t.sh.v.1 c hm) hck c2W (b9G (by decide)) fo hp
     exact ⟨_,t.b2z (t.sh.set hc (by omega) (.inl k32) hsz r2 (c6L (t.sh.nc c hm) (by show (0:Int)<_;decide) on hp)) (S6.set hc (by omega) (.inl k32)),same,⟨rfl,[],(List.append_nil _).symm,by simp⟩,b3p C s w K A B N S o ko hr t.sh.sm on h9 hrr.1 (by omega) c2 (by rw [ec];exact hp)⟩
  ·exact ⟨_,t,same,⟨rfl,[],(List.append_nil _).symm,by simp⟩,b3o C s w K A B N S o ko hr (fun h=>fun hl=>h6 ⟨h,hl⟩) (fun h=>fun hl=>h7' ⟨h,hl⟩) h9⟩
 ·by_cases h9:o.kind=9∧s.e8.length<20
  ·refine ⟨_,(t.c0a (IntKind.i64.wrap (1+IntKind.i64.wrap A))).c3q (d:=s.e8++[o]) (by simp;omega) (fun hF p hp=>?_),same,⟨rfl,[o],rfl,by intro p hp;simp only [List.mem_singleton] at hp;rw [hp];exact h9.1⟩,b4y C s w K A B N S o ko hr h9.1 h9.2⟩
   rcases List.mem_append.1 hp with hp | hp
   ·exact t.df hF p hp
   ·simp only [List.mem_singleton] at hp;subst hp;exact fo
  ·exact ⟨_,t.c0a (IntKind.i64.wrap (1+IntKind.i64.wrap A)),same,⟨rfl,[],(List.append_nil _).symm,by simp⟩,b4z C s w K A B N S o ko hr h9⟩
end Go.Ab.Td
namespace Go.Ab.Td.TdW18
set_option maxRecDepth 100000
set_option maxRecDepth 100000
open Go Go.Ab Go.Ab.Td
variable {P:Program}
set_option linter.unusedSimpArgs false
def a1j:TF:=(.node (.node (.node (.node (.node (.node (.node (.leaf C0 I8) (.node (.leaf U4 a3Y) (.leaf H4 a0J))) .nil) (.node (.node (.leaf P9 a2T) (.leaf R1 a2y)) (.leaf z8 C3))) (.node (.node (.node (.leaf m8 O8) (.leaf k7 G7)) (.leaf o4 T9)) (.node .nil (.node (.leaf v9 I1) (.leaf Y6 a4y))))) (.node (.node (.leaf H5 U0) (.leaf G1 V3)) (.node (.leaf o9 M8) (.node (.leaf O6 a4c) (.node (.node (.leaf P7 a2N) (.leaf C9 G8)) (.leaf K9 T0)))))) (.node (.node (.node .nil (.node (.node (.leaf u1 P2) (.leaf a1T a4z)) (.leaf E1 J8))) (.node (.node (.leaf A2 Y0) (.node (.node (.leaf Q0 a2U) (.leaf E0 a0L)) (.leaf G0 X9))) (.node .nil (.node (.leaf Q1 a0i) (.leaf D4 L5))))) (.node (.node (.node .nil (.node (.node (.leaf A6 a2h) (.leaf u9 F0)) .nil)) (.node (.leaf s7 D7) (.node (.leaf v8 C2) (.leaf L6 a1M)))) (.node (.node (.node (.leaf y1 M9) (.leaf V8 a2Q)) (.leaf p7 N0)) (.node (.leaf Q2 a2V) (.leaf B8 I6)))))) (.node (.node (.node (.node (.leaf P8 a2O) (.node (.node (.leaf Y9 a1O) (.leaf a3H a8y)) (.node (.node (.leaf Y7 a4A) (.leaf N8 a0K)) .nil))) (.node (.node (.node (.leaf y2 a0M) (.leaf m7 P0)) (.leaf B5 Q7)) (.node (.leaf o5 S9) (.node (.leaf E5 a0N) (.leaf a7B b0p))))) (.node (.leaf r9 D6) (.node (.node (.leaf C6 G6) (.node (.leaf W4 a1u) (.leaf u6 L4))) (.node .nil (.node (.leaf W1 a2S) (.leaf B7 I5)))))) (.node (.node (.node (.leaf a1S a4v) (.node (.leaf F4 X3) (.node (.node (.leaf R5 a4D) (.leaf Q9 Z5)) .nil))) (.node .nil (.node (.leaf D5 a2W) (.leaf R0 Z6)))) (.node (.node (.node (.leaf L8 a1P) (.leaf n7 A5)) (.node (.leaf w7 N1) (.node (.leaf B1 S8) (.leaf V7 b0o)))) (.node (.node (.node (.leaf F1 M1) (.leaf s9 a5L)) .nil) (.node (.leaf u7 V4) (.node (.node (.leaf a0s a5I) (.leaf E4 S7)) (.leaf B9 I7))))))))
def a1k:TF:=.nil
def b3R:TF:=(.node (.node (.node (.leaf m8 O8) (.leaf K9 T0)) (.node .nil (.node (.leaf L6 a1M) (.leaf V8 a2Q)))) (.node (.leaf u6 L4) (.leaf R0 Z6)))
def b3S:TF:=.nil
def ext (_:Nat):Option a2w:=none
theorem c2j (C:Laid P):a1j.all (d8 P)=true:=by simp only [a1j,TF.all,a0X C,a4g C,a5Z C,b4j C,b4t C,a1F C,a9A C,b3b C,b1u C,a9C C,b4e C,a4G C,H2 C,a0p C,a0o C,a9D C,b6h C,b1L C,b8A C,b4i C,a1G C,a0T C,a0b C,a1R C,Y2 C,a8i C,c0J C,b4h C,c0K C,a4H C,a6u C,a4j C,a3T C,a3U C,a3V C,a3W C,V6 C,a3b C,a4F C,a1D C,a1E C,a2H C,a5Y C,a8l C,a0q C,a7N C,a2o C,a5l C,a3c C,a4k C,a6a C,a0U C,K2 C,M3 C,E3 C,a3E C,b0H C,a5k C,S4 C,a3D C,a2n C,a6s C,I2 C,a0W C,S2 C,a9H C,a8F C,a0r C,a5X C,a0V C,a3C C,Bool.and_self]
theorem c2l (_C:Laid P):a1k.all (d8 P)=true:=by simp only [a1k,TF.all,Bool.and_self]
theorem c2k (C:Laid P):b3R.all (d8 P)=true:=by simp only [b3R,TF.all,a6u C,a4j C,V6 C,Y2 C,a8i C,a9D C,Bool.and_self]
theorem c2m (_C:Laid P):b3S.all (N3 P)=true:=by simp only [b3S,TF.all,Bool.and_self]
theorem b7j:a3X P G fun g=>(ext g).map a6D:=by
 intro g h hg
 cases hg
theorem a9J:∀ g ps own r,kn0 g ps=some (own,r)→j5 P G g ps own r:=fun _ _ _ _ h=>by cases h
theorem run:isR [] (.bool true) ((a5b G kn0 ext b3R.fn b3S.fn a1j.fn a1k.fn 10000 20).call Y7 [])=true:=by kernel_rfl
theorem ok (C:Laid P):j5 P G Y7 [] [] (.bool true):=a7D C.mixed a9J b7j (TF.d6 (c2k C)) (TF.d6 (c2m C)) (TF.d6 (c2j C)) (TF.d6 (c2l C)) (b6c run)
end Go.Ab.Td.TdW18
namespace Go.Ab.Td
set_option maxRecDepth 100000
open Go Go.Ab
variable {P:Program}
set_option linter.unusedSimpArgs false
set_option linter.unusedVariables false
attribute [local irreducible] f0
end Go.Ab.Td
