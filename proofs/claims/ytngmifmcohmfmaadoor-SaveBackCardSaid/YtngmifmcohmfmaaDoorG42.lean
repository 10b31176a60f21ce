/- A part of the proof: the texts TdVz, TdVzx, TdW18, TdL. Under: nothing. -/
import Derived.Test.YtngmifmcohmfmaaDoorG31
import Derived.Test.YtngmifmcohmfmaaDoorG38
import Derived.Test.YtngmifmcohmfmaaDoorG39
import Derived.Test.YtngmifmcohmfmaaDoorG40
import Derived.Test.YtngmifmcohmfmaaDoorG41
import Derived.Test.YtngmifmcohmfmaaDoorG08
import Derived.Test.YtngmifmcohmfmaaDoorG05
import Derived.KernelRfl
import Derived.Test.YtngmifmcohmfmaaDoorG26
set_option linter.unusedVariables false
namespace Go.Ab.Td
set_option maxRecDepth 100000
set_option maxRecDepth 100000
open Go Go.Ab
variable {P:Program}
set_option linter.unusedSimpArgs false
theorem c4F {h:List Cl} {o:Ob} (hf:fits h o) (hk:o.kind=6) {a:Int} {s:List UInt8} (hr:a2M o a s.length=0):o7 0 (a5H h o a s)=o7 0 h∧T1 h (a5H h o a s):=by
 obtain ⟨h0,h2⟩:=a6B hf.1 hr
 obtain ⟨q1,q2,q3⟩:=X3 hf.1
 obtain ⟨c,hc,ec,hck,hcl⟩:=b2x hf (by rw [hk];decide)
 rw [hk] at hck
 have hck1:c.kind=1:=hck
 have hlen:o.off+o.len≤(c.bytes.length:Int):=by
  have:=hcl (by omega)
  rwa [Cl.length,if_pos hck1] at this
 have e1:(U2 c.bytes (o.off+a).toNat s).length=c.bytes.length:=a7F (by omega)
 unfold a5H
 rw [ec]
 refine ⟨b0E (by unfold Cl.size;dsimp only;rw [e1]) h _ 0 hc,T1.set hc rfl (.inr ?_)⟩
 unfold Cl.length;dsimp only;rw [e1]
theorem c4G {h:List Cl} {o:Ob} (hf:fits h o) (hk:o.kind=7) {a:Int} {l:List Ob} (hr:a2M o a l.length=0):o7 0 (a5I h o a l)=o7 0 h∧T1 h (a5I h o a l):=by
 obtain ⟨h0,h2⟩:=a6B hf.1 hr
 obtain ⟨q1,q2,q3⟩:=X3 hf.1
 obtain ⟨c,hc,ec,hck,hcl⟩:=b2x hf (by rw [hk];decide)
 rw [hk] at hck
 have hck1:c.kind=2:=hck
 have hlen:o.off+o.len≤(c.items.length:Int):=by
  have:=hcl (by omega)
  rwa [Cl.length,if_neg (by omega)] at this
 have e1:(U2 c.items (o.off+a).toNat l).length=c.items.length:=a7F (by omega)
 unfold a5I
 rw [ec]
 refine ⟨b0E (by unfold Cl.size;dsimp only;rw [e1]) h _ 0 hc,T1.set hc rfl (.inr ?_)⟩
 unfold Cl.length;dsimp only;rw [e1]
theorem a8X {h:List Cl} (hn:∀ c ∈ h,nC c) (o:Ob):nC (cellAt h o):=by
 unfold cellAt
 cases hc:h[o.ref.toNat]? with
 | none=>exact ⟨by simp [cl0],by simp [cl0],by simp [cl0]⟩
 | some c=>exact hn c (List.mem_of_getElem? hc)
theorem SH.c9X {h:List Cl} (t:SH h) {o:Ob} (hf:fits h o) (hk:o.kind=6) {a:Int} {s:List UInt8} (hr:a2M o a s.length=0):SH (a5H h o a s)∧T1 h (a5H h o a s):=by
 obtain ⟨e,ho⟩:=c4F hf hk hr
 have el:(a5H h o a s).length=h.length:=by unfold a5H;rw [List.length_set]
 exact ⟨⟨(c5k t.v hf hk hr).1,by rw [el];exact t.len,by rw [e,el];exact t.tot,b8V (c:={cellAt h o with bytes:=U2 (cellAt h o).bytes (o.off+a).toNat s}) t.nc ⟨(a8X t.nc o).1,(a8X t.nc o).2.1,(a8X t.nc o).2.2⟩ _⟩,ho⟩
theorem SH.c9Y {h:List Cl} (t:SH h) {o:Ob} (hf:fits h o) (hk:o.kind=7) {a:Int} {l:List Ob} (hl:∀ x ∈ l,fits h x) (hn:∀ x ∈ l,x.n<9223372036854775808) (hr:a2M o a l.length=0):SH (a5I h o a l)∧T1 h (a5I h o a l):=by
 obtain ⟨e,ho⟩:=c4G hf hk hr
 have el:(a5I h o a l).length=h.length:=by unfold a5I;rw [List.length_set]
 refine ⟨⟨(c5l t.v hf hk hl hr).1,by rw [el];exact t.len,by rw [e,el];exact t.tot,b8V (c:={cellAt h o with items:=U2 (cellAt h o).items (o.off+a).toNat l}) t.nc ⟨fun x hx=>?_,(a8X t.nc o).2.1,(a8X t.nc o).2.2⟩ _⟩,ho⟩
 dsimp only at hx
 unfold U2 at hx
 rcases List.mem_append.1 hx with hx | hx
 ·rcases List.mem_append.1 hx with hx | hx
  ·exact (a8X t.nc o).1 x (List.mem_of_mem_take hx)
  ·exact hn x hx
 ·exact (a8X t.nc o).1 x (List.mem_of_mem_drop hx)
def c6t (w:Int) (x:Wd):List PV:=[.int .u8 w,.int .u8 x.K,.int .u8 x.A,.int .u8 x.B,.int .i32 x.N,.str x.S]
theorem c6o {h:List Cl} {o:Ob} (hf:fits h o) (hl:0<o.len):a2M o 0 1=0:=by
 obtain ⟨q1,q2,q3⟩:=X3 hf.1
 unfold a2M
 rw [if_neg]
 rw [wrap_small (by omega) (by omega)]
 omega
theorem c3w:c7c (nmO [110,101,119]):=⟨by simp [nmO],by simp [nmO],c3x _⟩
end Go.Ab.Td
namespace Go.Ab.Td
set_option maxRecDepth 100000
set_option maxRecDepth 100000
open Go Go.Ab
variable {P:Program}
set_option linter.unusedSimpArgs false
theorem b8u (C:Laid P) {F:Prop} {m:Nat} {s:v9} {l:List Sn} {ts:List v9} (t:SI F m s l ts) (w:Int) (hw:0≤w∧w<256) (x:Wd) (h3:3≤w.tmod 8):∃ s',SI F m s' l ts∧(∀ p ∈ s'.ops,p ∈ s.ops∨p.kind≠12)∧(s'.f4=s.f4∧∃ d',s'.e6=s.e6++d'∧∀ p ∈ d',p.kind=9)∧j4 P G i7 [.agg (c6t w x),aS s] [] (aS s'):=by
 obtain ⟨K,A,B,N,S,hA,hB,hN⟩:=x
 have h7:=Int.tmod_lt_of_pos w (show (0:Int)<8 by decide)
 have ko:=T9 C s.heap t.sh.sm K A B N S hA hB hN
 have fo:=b5m t.sh.vh K A B N hA hB hN
 have on:=c0I s.heap K A B N hA hN
 have ol:=t.ol
 have k12:=c0H s.heap K A B N
 generalize b0g s.heap K A B N=o at ko fo on k12
 have same:∀ p ∈ s.ops,p ∈ s.ops∨p.kind≠12:=fun p hp=>.inl hp
 have hr:w.tmod 8=3∨w.tmod 8=4∨w.tmod 8=5∨w.tmod 8=6∨w.tmod 8=7:=by omega
 rcases hr with hr | hr | hr | hr | hr
 ·by_cases hl:s.ops.length<100
  ·refine ⟨_,t.b1o (ops:=s.ops++[o]) (by simp;omega) (fun hF p hp=>?_) (fun p hp=>?_),fun p hp=>(List.mem_append.1 hp).imp id (fun hq=>by simp only [List.mem_singleton] at hq;subst hq;exact k12),⟨rfl,[],(List.append_nil _).symm,by simp⟩,b3B C s w K A B N S o ko hr hl⟩
   ·rcases List.mem_append.1 hp with hp | hp
    ·exact t.of' hF p hp
    ·simp only [List.mem_singleton] at hp;subst hp;exact fo
   ·rcases List.mem_append.1 hp with hp | hp
    ·exact t.on p hp
    ·simp only [List.mem_singleton] at hp;subst hp;exact on
  ·exact ⟨_,t,same,⟨rfl,[],(List.append_nil _).symm,by simp⟩,b3z C s w K A B N S o ko hr hl⟩
 ·have r2:0≤A.tmod 2∧A.tmod 2<2:=⟨Int.tmod_nonneg _ hA.1,Int.tmod_lt_of_pos _ (by decide)⟩
  have e:IntKind.i64.wrap (1+IntKind.i64.wrap (A.tmod 2))=1+A.tmod 2:=by rw [wrap_small (v:=A.tmod 2) (by omega) (by omega),wrap_small (by omega) (by omega)]
  obtain ⟨n,hn⟩:∃ n:Nat,(if IntKind.i64.wrap (1+IntKind.i64.wrap (A.tmod 2))<((List.map i4 s.ops).length:Int) then IntKind.i64.wrap (1+IntKind.i64.wrap (A.tmod 2)) else ((List.map i4 s.ops).length:Int))=(n:Int)∧n≤s.ops.length:=by
   rw [e,List.length_map]
   by_cases hl:1+A.tmod 2<(s.ops.length:Int)
   ·rw [if_pos hl];exact ⟨(1+A.tmod 2).toNat,by omega,by omega⟩
   ·rw [if_neg hl];exact ⟨s.ops.length,rfl,Nat.le_refl _⟩
  exact ⟨_,t.b1o (ops:=s.ops.take (s.ops.length - n)) (by rw [List.length_take];omega) (fun hF p hp=>t.of' hF p (List.mem_of_mem_take hp)) (fun p hp=>t.on p (List.mem_of_mem_take hp)),fun p hp=>.inl (List.mem_of_mem_take hp),⟨rfl,[],(List.append_nil _).symm,by simp⟩,b4L C s w K A B N S o ko hr n hn.2 ol hn.1⟩
 ·obtain ⟨c,⟨c1,c2,c3,c4⟩,kc⟩:=c1D C t.sh.vh K A B N S hA hB hN
  by_cases hl:s.heap.length<60∧s.ops.length<100
  ·have th:=t.b2N (t.sh.app hl.1 c1 c2 c3 c4) (T1.app s.heap [c])
   by_cases hk:c.kind=1
   ·have hb:=((a7c c2).1 hk).2
    have hi:=((a7c c2).1 hk).1
    refine ⟨_,th.b1o (ops:=s.ops++[(⟨6,false,0,[],(s.heap.length:Int),0,(c.bytes.length:Int)⟩:Ob)]) (by simp;omega) (fun hF p hp=>?_) (fun p hp=>?_),fun p hp=>(List.mem_append.1 hp).imp id (fun hq=>by simp only [List.mem_singleton] at hq;subst hq;simp),⟨rfl,[],(List.append_nil _).symm,by simp⟩,b6F C s w K A B N S o ko hr c kc hl.1 hl.2 hk⟩
    ·rcases List.mem_append.1 hp with hp | hp
     ·exact th.of' hF p hp
     ·simp only [List.mem_singleton] at hp;subst hp
      refine ⟨?_,fun _=>⟨c,?_,hk,fun _=>?_⟩⟩
      ·unfold Ob.right Ob.blank;simp;omega
      ·show (s.heap++[c])[((s.heap.length:Int)).toNat]?=some c
       simp
      ·unfold Cl.length;rw [if_pos hk];simp
    ·rcases List.mem_append.1 hp with hp | hp
     ·exact t.on p hp
     ·simp only [List.mem_singleton] at hp;subst hp
      show (0:Int)<_;decide
   ·exact ⟨_,th,same,⟨rfl,[],(List.append_nil _).symm,by simp⟩,b4I C s w K A B N S o ko hr c kc hl.1 hl.2 hk⟩
  ·exact ⟨_,t,same,⟨rfl,[],(List.append_nil _).symm,by simp⟩,b2c C s w K A B N S o ko hr c kc hl⟩
 ·by_cases h6:o.kind=6∧0<o.len
  ·have rm:=c6o fo h6.2
   obtain ⟨q1,q2⟩:=t.sh.c9X fo h6.1 (a:=0) (s:=[122]) rm
   exact ⟨_,t.b2N q1 q2,same,⟨rfl,[],(List.append_nil _).symm,by simp⟩,b3y C s w K A B N S o ko hr t.sh.sm on h6.1 h6.2 (by unfold a9p;rw [if_neg (fun y=>y fo),if_pos (by rw [h6.1];simp)]) rm⟩
  by_cases h7':o.kind=7∧0<o.len
  ·have rm:=c6o fo h7'.2
   obtain ⟨q1,q2⟩:=t.sh.c9Y fo h7'.1 (a:=0) (l:=[o]) (by simpa using fo) (by simpa using on) rm
   exact ⟨_,t.b2N q1 q2,same,⟨rfl,[],(List.append_nil _).symm,by simp⟩,b3A C s w K A B N S o ko hr t.sh.sm on h7'.1 h7'.2 (by unfold a9p;rw [if_neg (fun y=>y fo),if_pos (by rw [h7'.1];simp)]) rm⟩
  by_cases h9:o.kind=9
  ·obtain ⟨c,hc,ec,hck, -⟩:=c3g fo h9
   have hrr:=a5L fo.1
   have hlt:=(List.getElem?_eq_some_iff.1 hc).1
   have hm:=List.mem_of_getElem? hc
   cases hp:a2L c (nmO [110,101,119]) o with
   | none=>exact ⟨_,t,same,⟨rfl,[],(List.append_nil _).symm,by simp⟩,b1h C s w K A B N S o ko hr t.sh.sm on h9 hrr.1 (by omega) (by rw [ec];exact hp)⟩
   | some c2=>
     obtain ⟨r2,k32,hsz, -⟩:=c1P (t.sh.v.1 c hm) hck c3w (c0u (by decide)) fo hp
     exact ⟨_,t.b2N (t.sh.set hc (by omega) (.inl k32) hsz r2 (c7h (t.sh.nc c hm) (by show (0:Int)<_;decide) on hp)) (T1.set hc (by omega) (.inl k32)),same,⟨rfl,[],(List.append_nil _).symm,by simp⟩,b3D C s w K A B N S o ko hr t.sh.sm on h9 hrr.1 (by omega) c2 (by rw [ec];exact hp)⟩
  ·exact ⟨_,t,same,⟨rfl,[],(List.append_nil _).symm,by simp⟩,b3C C s w K A B N S o ko hr (fun h=>fun hl=>h6 ⟨h,hl⟩) (fun h=>fun hl=>h7' ⟨h,hl⟩) h9⟩
 ·by_cases h9:o.kind=9∧s.e6.length<20
  ·refine ⟨_,(t.c0Q (IntKind.i64.wrap (1+IntKind.i64.wrap A))).b8r (d:=s.e6++[o]) (by simp;omega) (fun hF p hp=>?_),same,⟨rfl,[o],rfl,by intro p hp;simp only [List.mem_singleton] at hp;rw [hp];exact h9.1⟩,b4J C s w K A B N S o ko hr h9.1 h9.2⟩
   rcases List.mem_append.1 hp with hp | hp
   ·exact t.df hF p hp
   ·simp only [List.mem_singleton] at hp;subst hp;exact fo
  ·exact ⟨_,t.c0Q (IntKind.i64.wrap (1+IntKind.i64.wrap A)),same,⟨rfl,[],(List.append_nil _).symm,by simp⟩,b4K C s w K A B N S o ko hr h9⟩
end Go.Ab.Td
namespace Go.Ab.Td.TdW18
set_option maxRecDepth 100000
set_option maxRecDepth 100000
open Go Go.Ab Go.Ab.Td
variable {P:Program}
set_option linter.unusedSimpArgs false
def a1l:TF:=(.node (.node (.node (.node (.node (.node (.node (.leaf C2 J1) (.node (.leaf V1 a4f) (.leaf H7 a0N))) .nil) (.node (.node (.leaf Q4 a2T) (.leaf R4 a2A)) (.leaf z7 C5))) (.node (.node (.node (.leaf l8 P2) (.leaf s8 H2)) (.leaf n8 U5)) (.node .nil (.node (.leaf v8 I4) (.leaf Z1 a4G))))) (.node (.node (.leaf H8 U6) (.leaf G6 V9)) (.node (.leaf o8 N3) (.node (.leaf P1 a4j) (.node (.node (.leaf Q2 a2N) (.leaf D3 H3)) (.leaf L5 T6)))))) (.node (.node (.node .nil (.node (.node (.leaf s9 P6) (.leaf a1W a4H)) (.leaf E4 K4))) (.node (.node (.leaf z8 Y6) (.node (.node (.leaf G3 a2U) (.leaf E3 a0P)) (.leaf G5 Y5))) (.node .nil (.node (.leaf Q5 a0l) (.leaf D7 M1))))) (.node (.node (.node .nil (.node (.node (.leaf B5 a2k) (.leaf u6 F3)) .nil)) (.node (.leaf q8 E0) (.node (.leaf v7 C4) (.leaf M3 a1O)))) (.node (.node (.node (.leaf y0 N4) (.leaf W5 a2Q)) (.leaf o9 N5)) (.node (.leaf Q6 a2V) (.leaf C0 I9)))))) (.node (.node (.node (.node (.leaf Q3 a2O) (.node (.node (.leaf Z3 a1Q) (.leaf a3N a8N)) (.node (.node (.leaf Z2 a4I) (.leaf O2 a0O)) .nil))) (.node (.node (.node (.leaf y1 a0Q) (.leaf A2 P4)) (.leaf B6 R0)) (.node (.leaf n9 T5) (.node (.leaf E8 a0R) (.leaf a7Q b0I))))) (.node (.leaf q0 D9) (.node (.node (.leaf D1 H0) (.node (.leaf X0 a1v) (.leaf u4 M0))) (.node .nil (.node (.leaf W7 a2S) (.leaf B9 I8)))))) (.node (.node (.node (.leaf a1V a4D) (.node (.leaf F7 X8) (.node (.node (.leaf S0 a4L) (.leaf R2 a0a)) .nil))) (.node .nil (.node (.leaf D8 a2W) (.leaf R3 a0b)))) (.node (.node (.node (.leaf D6 a1R) (.leaf m9 A4)) (.node (.leaf w6 N6) (.node (.leaf B0 T4) (.leaf W4 b0H)))) (.node (.node (.node (.leaf F4 M7) (.leaf r9 a6b)) .nil) (.node (.leaf u5 W0) (.node (.node (.leaf a0v a5Y) (.leaf E7 T3)) (.leaf C1 J0))))))))
def a1m:TF:=.nil
def b4e:TF:=(.node (.node (.node (.leaf l8 P2) (.leaf L5 T6)) (.node .nil (.node (.leaf M3 a1O) (.leaf W5 a2Q)))) (.node (.leaf u4 M0) (.leaf R3 a0b)))
def b4f:TF:=.nil
def ext (_:Nat):Option a3v:=none
theorem c2N (C:Laid P):a1l.all (b9 P)=true:=by simp only [a1l,TF.all,a1b C,a4n C,a6q C,b4u C,b4E C,a1H C,a9U C,b3o C,b1K C,a9W C,b4p C,a4O C,a0r C,a3K C,a0q C,a9X C,b6v C,b2a C,b8S C,b4t C,a1I C,a0X C,a0e C,a1U C,Y8 C,a8x C,c1B C,b4s C,c1C C,a4P C,a6L C,a4q C,a4a C,a4b C,a4c C,a4d C,W3 C,a3b C,a4N C,a1F C,a1G C,a2I C,a6p C,a8A C,a0s C,a8c C,a2r C,a5z C,a3c C,a4r C,a6r C,a0Y C,K7 C,M8 C,E6 C,a3H C,b0Z C,a5y C,S9 C,a3G C,a2q C,a6J C,I5 C,a1a C,S7 C,b0a C,a8V C,a0t C,a6o C,a0Z C,a3F C,Bool.and_self]
theorem c2P (_C:Laid P):a1m.all (b9 P)=true:=by simp only [a1m,TF.all,Bool.and_self]
theorem c2O (C:Laid P):b4e.all (b9 P)=true:=by simp only [b4e,TF.all,a6L C,a4q C,W3 C,Y8 C,a8x C,a9X C,Bool.and_self]
theorem c2Q (_C:Laid P):b4f.all (P7 P)=true:=by simp only [b4f,TF.all,Bool.and_self]
theorem b5l:a5f P G fun g=>(ext g).map a7j:=by
 intro g h hg
 cases hg
theorem b0c:∀ g ps own r,kn0 g ps=some (own,r)→j4 P G g ps own r:=fun _ _ _ _ h=>by cases h
theorem run:isR [] (.bool true) ((a5p G kn0 ext b4e.fn b4f.fn a1l.fn a1m.fn 10000 20).call Z2 [])=true:=by kernel_rfl
theorem ok (C:Laid P):j4 P G Z2 [] [] (.bool true):=a7T C.mixed b0c b5l (TF.b8 (c2O C)) (TF.b8 (c2Q C)) (TF.b8 (c2N C)) (TF.b8 (c2P C)) (b6q run)
end Go.Ab.Td.TdW18
namespace Go.Ab.Td
set_option maxRecDepth 100000
open Go Go.Ab
variable {P:Program}
set_option linter.unusedSimpArgs false
set_option linter.unusedVariables false
attribute [local irreducible] e9
end Go.Ab.Td
