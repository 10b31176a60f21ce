/- A part of the proof: the texts TdVm, TdVs, TdWs, TdWk. Under: nothing. -/
import Derived.Test.YtngmifmcohmfmaaDoorG29
import Derived.Test.YtngmifmcohmfmaaDoorG37
import Derived.Test.YtngmifmcohmfmaaDoorG26
import Derived.Test.YtngmifmcohmfmaaDoorG25
set_option linter.unusedVariables false
namespace Go.Ab.Td
set_option maxRecDepth 100000
set_option maxRecDepth 100000
open Go Go.Ab
set_option linter.unusedSimpArgs false
theorem b8k {α:Type} {l x:List α} {i:Nat} (h:i+x.length≤l.length):((U2 l i x).take (i+x.length)).drop i=x:=by
 unfold U2
 have h1:(l.take i).length=i:=by rw [List.length_take];omega
 rw [List.take_left' (by rw [List.length_append,h1]),List.drop_left' h1]
theorem b2V {h:List Cl} {o:Ob} {c:Cl} (hl:o.ref.toNat<h.length):cellAt (h.set o.ref.toNat c) o=c:=by
 unfold cellAt
 rw [List.getElem?_set_self hl]
 rfl
def a7i (o:Ob) (a n:Int):Ob:={o with off:=o.off+a,len:=n}
theorem b5C {o:Ob} (h:o.right) (hk:o.kind=6∨o.kind=7∨o.kind=8) {a n:Int} (h0:0≤a) (h1:0≤n) (h2:a+n≤o.len):(a7i o a n).right:=by
 obtain ⟨k,⟨b1,b2,b3,b4,b5⟩,r1,r2,r3,r4,r5,r6,r7,r8⟩:=h
 obtain ⟨q1,q2,q3⟩:=r7 hk
 exact ⟨k,⟨b1,b2,b3,.inr hk,.inr hk⟩,r1,r2,r3,r4,r5,r6,fun _=>⟨by dsimp only [a7i];omega,h1,by dsimp only [a7i];omega⟩,r8⟩
theorem b5s {o:Ob} (h:o.right) (hk:o.kind=6∨o.kind=7∨o.kind=8) {a n:Int} (h0:0≤a) (h1:0≤n) (h2:a+n≤o.len):c0A o a n=(a7i o a n,0):=by
 obtain ⟨q1,q2,q3⟩:=X3 h
 unfold c0A a7i
 rw [if_neg (fun x=>x h),if_neg (by omega),wrap_small (v:=o.len - a) (by omega) (by omega),if_neg (by omega),wrap_small (v:=o.off+a) (by omega) (by omega)]
theorem a6B {o:Ob} (h:o.right) {a n:Int} (hr:a2M o a n=0):0≤a∧a+n≤o.len:=by
 obtain ⟨q1,q2,q3⟩:=X3 h
 unfold a2M at hr
 by_cases hx:a<0∨a>o.len∨n>IntKind.i64.wrap (o.len - a)
 ·rw [if_pos hx] at hr;cases hr
 ·simp only [not_or] at hx
  obtain ⟨x1,x2,x3⟩:=hx
  rw [wrap_small (by omega) (by omega)] at x3
  omega
theorem b2x {h:List Cl} {o:Ob} (hf:fits h o) (hk:H4 o.kind≠0):∃ c,h[o.ref.toNat]?=some c∧cellAt h o=c∧c.kind=H4 o.kind∧(o.kind≠9∧o.kind≠11→o.off+o.len≤c.length):=by
 obtain ⟨h1,h2,h3⟩:=b0P hf hk
 exact ⟨_,h1,rfl,h2,h3⟩
theorem c5k {h:List Cl} {o:Ob} (hv:Y2 h) (hf:fits h o) (hk:o.kind=6) {a:Int} {s:List UInt8} (hr:a2M o a s.length=0):
 Y2 (a5H h o a s)∧c0A o a s.length=(a7i o a s.length,0)∧a9p (a5H h o a s) (a7i o a s.length) [6]=0∧sub (a5H h o a s) (a7i o a s.length)=s:=by
 obtain ⟨h0,h2⟩:=a6B hf.1 hr
 obtain ⟨q1,q2,q3⟩:=X3 hf.1
 obtain ⟨c,hc,ec,hck,hcl⟩:=b2x hf (by rw [hk];decide)
 rw [hk] at hck
 have hck1:c.kind=1:=hck
 have hlen:o.off+o.len≤(c.bytes.length:Int):=by
  have:=hcl (by omega)
  rwa [Cl.length,if_pos hck1] at this
 have ht:(o.off+a).toNat+s.length≤c.bytes.length:=by omega
 have hl:=(List.getElem?_eq_some_iff.1 hc).1
 have hrc:=hv.1 c (List.mem_of_getElem? hc)
 unfold a5H
 rw [ec]
 have e1:(U2 c.bytes (o.off+a).toNat s).length=c.bytes.length:=a7F ht
 have hv2:Y2 (h.set o.ref.toNat {c with bytes:=U2 c.bytes (o.off+a).toNat s}):=by
  refine b1r hv hc rfl (.inr (.inr ?_)) ?_ ?_
  ·unfold Cl.length;dsimp only;rw [e1]
  ·unfold Cl.size;dsimp only;rw [e1]
  ·rcases hrc with ⟨k,a1,r⟩ | ⟨k, -⟩ | ⟨k, -⟩ | ⟨k, -⟩
   ·exact .inl ⟨k,by dsimp only;rw [e1];exact a1,r⟩
   ·omega
   ·omega
   ·omega
 have hcut:=b5C hf.1 (.inl hk) h0 (by omega:(0:Int)≤s.length) h2
 refine ⟨hv2,b5s hf.1 (.inl hk) h0 (by omega) h2,?_,?_⟩
 ·unfold a9p
  rw [if_neg,if_pos (by show o.kind ∈ [6];rw [hk];simp)]
  refine fun x=>x ⟨hcut,fun _=>⟨_,List.getElem?_set_self hl,?_,fun _=>?_⟩⟩
  ·show c.kind=H4 o.kind
   rw [hk];exact hck
  ·show o.off+a+(s.length:Int)≤Cl.length _
   unfold Cl.length
   dsimp only
   rw [if_pos hck1,e1]
   omega
 ·unfold sub
  rw [show cellAt (h.set o.ref.toNat {c with bytes:=U2 c.bytes (o.off+a).toNat s}) (a7i o a s.length)={c with bytes:=U2 c.bytes (o.off+a).toNat s} from b2V (o:=a7i o a s.length) hl]
  dsimp only [a7i]
  rw [show (o.off+a+(s.length:Int)).toNat=(o.off+a).toNat+s.length by omega]
  exact b8k ht
theorem c5l {h:List Cl} {o:Ob} (hv:Y2 h) (hf:fits h o) (hk:o.kind=7) {a:Int} {l:List Ob} (hl':∀ x ∈ l,fits h x) (hr:a2M o a l.length=0):
 Y2 (a5I h o a l)∧c0A o a l.length=(a7i o a l.length,0)∧a9p (a5I h o a l) (a7i o a l.length) [7,8]=0∧c9i (a5I h o a l) (a7i o a l.length)=l:=by
 obtain ⟨h0,h2⟩:=a6B hf.1 hr
 obtain ⟨q1,q2,q3⟩:=X3 hf.1
 obtain ⟨c,hc,ec,hck,hcl⟩:=b2x hf (by rw [hk];decide)
 rw [hk] at hck
 have hck1:c.kind=2:=hck
 have hlen:o.off+o.len≤(c.items.length:Int):=by
  have:=hcl (by omega)
  rwa [Cl.length,if_neg (by omega)] at this
 have ht:(o.off+a).toNat+l.length≤c.items.length:=by omega
 have hl:=(List.getElem?_eq_some_iff.1 hc).1
 have hrc:=hv.1 c (List.mem_of_getElem? hc)
 unfold a5I
 rw [ec]
 have e1:(U2 c.items (o.off+a).toNat l).length=c.items.length:=a7F ht
 have hm:∀ x ∈ U2 c.items (o.off+a).toNat l,x ∈ c.items∨x ∈ l:=by
  intro x hx
  unfold U2 at hx
  rcases List.mem_append.1 hx with hx | hx
  ·rcases List.mem_append.1 hx with hx | hx
   ·exact .inl (List.mem_of_mem_take hx)
   ·exact .inr hx
  ·exact .inl (List.mem_of_mem_drop hx)
 have hv2:Y2 (h.set o.ref.toNat {c with items:=U2 c.items (o.off+a).toNat l}):=by
  refine b1r hv hc rfl (.inr (.inr ?_)) ?_ ?_
  ·unfold Cl.length;dsimp only;rw [e1]
  ·unfold Cl.size;dsimp only;rw [e1]
  ·rcases hrc with ⟨k, -⟩ | ⟨k,a1,a2,a3,r⟩ | ⟨k, -⟩ | ⟨k, -⟩
   ·omega
   ·refine .inr (.inl ⟨k,a1,by dsimp only;rw [e1];exact a2,fun x hx=>?_,r⟩)
    rcases hm x hx with hx | hx
    ·exact a3 x hx
    ·exact hl' x hx
   ·omega
   ·omega
 have hcut:=b5C hf.1 (.inr (.inl hk)) h0 (by omega:(0:Int)≤l.length) h2
 refine ⟨hv2,b5s hf.1 (.inr (.inl hk)) h0 (by omega) h2,?_,?_⟩
 ·unfold a9p
  rw [if_neg,if_pos (by show o.kind ∈ [7,8];rw [hk];simp)]
  refine fun x=>x ⟨hcut,fun _=>⟨_,List.getElem?_set_self hl,?_,fun _=>?_⟩⟩
  ·show c.kind=H4 o.kind
   rw [hk];exact hck
  ·show o.off+a+(l.length:Int)≤Cl.length _
   unfold Cl.length
   dsimp only
   rw [if_neg (by omega),e1]
   omega
 ·unfold c9i
  rw [show cellAt (h.set o.ref.toNat {c with items:=U2 c.items (o.off+a).toNat l}) (a7i o a l.length)={c with items:=U2 c.items (o.off+a).toNat l} from b2V (o:=a7i o a l.length) hl]
  dsimp only [a7i]
  rw [show (o.off+a+(l.length:Int)).toNat=(o.off+a).toNat+l.length by omega]
  exact b8k ht
end Go.Ab.Td
namespace Go.Ab.Td
set_option maxRecDepth 100000
set_option maxRecDepth 100000
open Go Go.Ab
variable {P:Program}
attribute [local irreducible] e9
theorem b8T (C:Laid P) (cells ops e6:List (List PV)) (hc:∀ r ∈ cells,a5h r):∃ H,(a5e H∧∃ h,LeR H (h.map j8)∧H.length=h.length∧a3t h)∧j4 P G H9 [.agg [.sl 5 cells,.sl 5 ops,.sl 1 e6]] [] (.sl 7 H):=by
 obtain ⟨H,hI,h2⟩:=c1u (fun H=>a5e H∧∃ h,LeR H (h.map j8)∧H.length=h.length∧a3t h) ⟨⟨[],rfl,by simp,b3e⟩,a1B,c3e,rfl,c4Z⟩ (j4 P G) cells ops e6 hc (First.ok C) (fun K A B N S H hA hB hN _ hlt ⟨⟨more,em,hm,hall⟩,h,e,hl,t⟩=>by
  obtain ⟨r,h1,h2⟩:=b5f (FV h) (j4 P G) H K A B N S hA hB hN (fun K' A' B' N' S' a b n=>b7P C t.1 e K' A' B' N' S' a b n) (b7N C) (b7O C)
  obtain ⟨c,ec,c1,c2,c3,c4⟩:=c0n h1
  have ml:H.length=10+more.length:=by rw [em,List.length_append];rfl
  refine ⟨r,⟨c0m h1,⟨more++[r],by rw [em,List.append_assoc],by simp;omega,?_⟩,h++[c],by rw [List.map_append];exact e.append (.cons ec .nil),by simp [hl],t.app (by omega) c1 c2 c3 c4⟩,a7u C (a4p C) rfl h2⟩
  intro x hx
  rcases List.mem_append.1 hx with hx | hx
  ·exact hall x hx
  ·simp only [List.mem_singleton] at hx;subst hx;exact c0m h1)
 exact ⟨H,hI,a7u C (a8U C) rfl h2⟩
end Go.Ab.Td
namespace Go.Ab.Td
set_option maxRecDepth 100000
open Go Go.Ab
variable {P:Program}
attribute [local irreducible] e9
end Go.Ab.Td
namespace Go.Ab.Td
set_option maxRecDepth 100000
set_option maxRecDepth 100000
open Go Go.Ab
variable {P:Program}
set_option linter.unusedSimpArgs false
theorem a2G {p:Prop} [Decidable p] {a b:Ob} (h1:a.kind≠12) (h2:b.kind≠12):(if p then a else b).kind≠12:=by
 by_cases hp:p
 ·rw [if_pos hp];exact h1
 ·rw [if_neg hp];exact h2
theorem c3D (h:List Cl) (kd cl A B N:Int) (hk:kd≠12):(a1s h kd cl A B N).kind≠12:=by
 unfold a1s
 dsimp only
 exact a2G (by first | (simp;done) | (simp [ob0];done)) (a2G hk (a2G hk hk))
theorem c0H (h:List Cl) (K A B N:Int):(b0g h K A B N).kind≠12:=by
 have hp:=fun kd cl hk=>c3D h kd cl A B N hk
 unfold b0g
 exact a2G (by first | (simp;done) | (simp [ob0];done)) (a2G (by first | (simp;done) | (simp [ob0];done)) (a2G (by first | (simp;done) | (simp [ob0];done)) (a2G (by first | (simp;done) | (simp [ob0];done)) (a2G (by first | (simp;done) | (simp [ob0];done)) (a2G (by first | (simp;done) | (simp [ob0];done)) (a2G (by first | (simp;done) | (simp [ob0];done)) (a2G (by first | (simp;done) | (simp [ob0];done)) (a2G (hp 6 1 (by decide)) (a2G (hp 7 2 (by decide)) (a2G (hp 8 2 (by decide)) (a2G (hp 9 3 (by decide)) (a2G (by first | (simp;done) | (simp [ob0];done)) (hp 11 4 (by decide))))))))))))))
end Go.Ab.Td
