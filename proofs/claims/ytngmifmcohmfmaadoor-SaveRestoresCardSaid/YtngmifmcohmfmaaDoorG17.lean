/- A part of the proof: the texts TdVm, TdVs. Under: nothing. -/
import Derived.Test.YtngmifmcohmfmaaDoorG15
import Derived.Test.YtngmifmcohmfmaaDoorG16
set_option linter.unusedVariables false
namespace Go.Ab.Td
set_option maxRecDepth 100000
set_option maxRecDepth 100000
open Go Go.Ab
set_option linter.unusedSimpArgs false
theorem b6L {α:Type} {l x:List α} {i:Nat} (h:i+x.length≤l.length):((R4 l i x).take (i+x.length)).drop i=x:=by
 unfold R4
 have h1:(l.take i).length=i:=by rw [List.length_take];omega
 rw [List.take_left' (by rw [List.length_append,h1]),List.drop_left' h1]
theorem b1I {h:List Cl} {o:Ob} {c:Cl} (hl:o.ref.toNat<h.length):cellAt (h.set o.ref.toNat c) o=c:=by
 unfold cellAt
 rw [List.getElem?_set_self hl]
 rfl
def a6e (o:Ob) (a n:Int):Ob:={o with off:=o.off+a,len:=n}
theorem b4l {o:Ob} (h:o.right) (hk:o.kind=6∨o.kind=7∨o.kind=8) {a n:Int} (h0:0≤a) (h1:0≤n) (h2:a+n≤o.len):(a6e o a n).right:=by
 obtain ⟨k,⟨b1,b2,b3,b4,b5⟩,r1,r2,r3,r4,r5,r6,r7,r8⟩:=h
 obtain ⟨q1,q2,q3⟩:=r7 hk
 exact ⟨k,⟨b1,b2,b3,.inr hk,.inr hk⟩,r1,r2,r3,r4,r5,r6,fun _=>⟨by dsimp only [a6e];omega,h1,by dsimp only [a6e];omega⟩,r8⟩
theorem b4b {o:Ob} (h:o.right) (hk:o.kind=6∨o.kind=7∨o.kind=8) {a n:Int} (h0:0≤a) (h1:0≤n) (h2:a+n≤o.len):b9b o a n=(a6e o a n,0):=by
 obtain ⟨q1,q2,q3⟩:=a0i h
 unfold b9b a6e
 rw [if_neg (fun x=>x h),if_neg (by omega),wrap_small (v:=o.len - a) (by omega) (by omega),if_neg (by omega),wrap_small (v:=o.off+a) (by omega) (by omega)]
theorem a5z {o:Ob} (h:o.right) {a n:Int} (hr:a2m o a n=0):0≤a∧a+n≤o.len:=by
 obtain ⟨q1,q2,q3⟩:=a0i h
 unfold a2m at hr
 by_cases hx:a<0∨a>o.len∨n>IntKind.i64.wrap (o.len - a)
 ·rw [if_pos hx] at hr;cases hr
 ·simp only [not_or] at hx
  obtain ⟨x1,x2,x3⟩:=hx
  rw [wrap_small (by omega) (by omega)] at x3
  omega
theorem b1j {h:List Cl} {o:Ob} (hf:fits h o) (hk:I1 o.kind≠0):∃ c,h[o.ref.toNat]?=some c∧cellAt h o=c∧c.kind=I1 o.kind∧(o.kind≠9∧o.kind≠11→o.off+o.len≤c.length):=by
 obtain ⟨h1,h2,h3⟩:=a9J hf hk
 exact ⟨_,h1,rfl,h2,h3⟩
theorem c3x {h:List Cl} {o:Ob} (hv:a2c h) (hf:fits h o) (hk:o.kind=6) {a:Int} {s:List UInt8} (hr:a2m o a s.length=0):
 a2c (a4O h o a s)∧b9b o a s.length=(a6e o a s.length,0)∧a8l (a4O h o a s) (a6e o a s.length) [6]=0∧sub (a4O h o a s) (a6e o a s.length)=s:=by
 obtain ⟨h0,h2⟩:=a5z hf.1 hr
 obtain ⟨q1,q2,q3⟩:=a0i hf.1
 obtain ⟨c,hc,ec,hck,hcl⟩:=b1j hf (by rw [hk];decide)
 rw [hk] at hck
 have hck1:c.kind=1:=hck
 have hlen:o.off+o.len≤(c.bytes.length:Int):=by
  have:=hcl (by omega)
  rwa [Cl.length,if_pos hck1] at this
 have ht:(o.off+a).toNat+s.length≤c.bytes.length:=by omega
 have hl:=(List.getElem?_eq_some_iff.1 hc).1
 have hrc:=hv.1 c (List.mem_of_getElem? hc)
 unfold a4O
 rw [ec]
 have e1:(R4 c.bytes (o.off+a).toNat s).length=c.bytes.length:=a6E ht
 have hv2:a2c (h.set o.ref.toNat {c with bytes:=R4 c.bytes (o.off+a).toNat s}):=by
  refine b0o hv hc rfl (.inr (.inr ?_)) ?_ ?_
  ·unfold Cl.length;dsimp only;rw [e1]
  ·unfold Cl.size;dsimp only;rw [e1]
  ·rcases hrc with ⟨k,a1,r⟩ | ⟨k, -⟩ | ⟨k, -⟩ | ⟨k, -⟩
   ·exact .inl ⟨k,by dsimp only;rw [e1];exact a1,r⟩
   ·omega
   ·omega
   ·omega
 have hcut:=b4l hf.1 (.inl hk) h0 (by omega:(0:Int)≤s.length) h2
 refine ⟨hv2,b4b hf.1 (.inl hk) h0 (by omega) h2,?_,?_⟩
 ·unfold a8l
  rw [if_neg,if_pos (by show o.kind ∈ [6];rw [hk];simp)]
  refine fun x=>x ⟨hcut,fun _=>⟨_,List.getElem?_set_self hl,?_,fun _=>?_⟩⟩
  ·show c.kind=I1 o.kind
   rw [hk];exact hck
  ·show o.off+a+(s.length:Int)≤Cl.length _
   unfold Cl.length
   dsimp only
   rw [if_pos hck1,e1]
   omega
 ·unfold sub
  rw [show cellAt (h.set o.ref.toNat {c with bytes:=R4 c.bytes (o.off+a).toNat s}) (a6e o a s.length)={c with bytes:=R4 c.bytes (o.off+a).toNat s} from b1I (o:=a6e o a s.length) hl]
  dsimp only [a6e]
  rw [show (o.off+a+(s.length:Int)).toNat=(o.off+a).toNat+s.length by omega]
  exact b6L ht
theorem c3y {h:List Cl} {o:Ob} (hv:a2c h) (hf:fits h o) (hk:o.kind=7) {a:Int} {l:List Ob} (hl':∀ x ∈ l,fits h x) (hr:a2m o a l.length=0):
 a2c (a4P h o a l)∧b9b o a l.length=(a6e o a l.length,0)∧a8l (a4P h o a l) (a6e o a l.length) [7,8]=0∧c7A (a4P h o a l) (a6e o a l.length)=l:=by
 obtain ⟨h0,h2⟩:=a5z hf.1 hr
 obtain ⟨q1,q2,q3⟩:=a0i hf.1
 obtain ⟨c,hc,ec,hck,hcl⟩:=b1j hf (by rw [hk];decide)
 rw [hk] at hck
 have hck1:c.kind=2:=hck
 have hlen:o.off+o.len≤(c.items.length:Int):=by
  have:=hcl (by omega)
  rwa [Cl.length,if_neg (by omega)] at this
 have ht:(o.off+a).toNat+l.length≤c.items.length:=by omega
 have hl:=(List.getElem?_eq_some_iff.1 hc).1
 have hrc:=hv.1 c (List.mem_of_getElem? hc)
 unfold a4P
 rw [ec]
 have e1:(R4 c.items (o.off+a).toNat l).length=c.items.length:=a6E ht
 have hm:∀ x ∈ R4 c.items (o.off+a).toNat l,x ∈ c.items∨x ∈ l:=by
  intro x hx
  unfold R4 at hx
  rcases List.mem_append.1 hx with hx | hx
  ·rcases List.mem_append.1 hx with hx | hx
   ·exact .inl (List.mem_of_mem_take hx)
   ·exact .inr hx
  ·exact .inl (List.mem_of_mem_drop hx)
 have hv2:a2c (h.set o.ref.toNat {c with items:=R4 c.items (o.off+a).toNat l}):=by
  refine b0o hv hc rfl (.inr (.inr ?_)) ?_ ?_
  ·unfold Cl.length;dsimp only;rw [e1]
  ·unfold Cl.size;dsimp only;rw [e1]
  ·rcases hrc with ⟨k, -⟩ | ⟨k,a1,a2,a3,r⟩ | ⟨k, -⟩ | ⟨k, -⟩
   ·omega
   ·refine .inr (.inl ⟨k,a1,by dsimp only;rw [e1];exact a2,fun x hx=>?_,r⟩)
    rcases hm x hx with hx | hx
    ·exact a3 x hx
    ·exact hl' x hx
   ·omega
   ·omega
 have hcut:=b4l hf.1 (.inr (.inl hk)) h0 (by omega:(0:Int)≤l.length) h2
 refine ⟨hv2,b4b hf.1 (.inr (.inl hk)) h0 (by omega) h2,?_,?_⟩
 ·unfold a8l
  rw [if_neg,if_pos (by show o.kind ∈ [7,8];rw [hk];simp)]
  refine fun x=>x ⟨hcut,fun _=>⟨_,List.getElem?_set_self hl,?_,fun _=>?_⟩⟩
  ·show c.kind=I1 o.kind
   rw [hk];exact hck
  ·show o.off+a+(l.length:Int)≤Cl.length _
   unfold Cl.length
   dsimp only
   rw [if_neg (by omega),e1]
   omega
 ·unfold c7A
  rw [show cellAt (h.set o.ref.toNat {c with items:=R4 c.items (o.off+a).toNat l}) (a6e o a l.length)={c with items:=R4 c.items (o.off+a).toNat l} from b1I (o:=a6e o a l.length) hl]
  dsimp only [a6e]
  rw [show (o.off+a+(l.length:Int)).toNat=(o.off+a).toNat+l.length by omega]
  exact b6L ht
end Go.Ab.Td
namespace Go.Ab.Td
set_option maxRecDepth 100000
set_option maxRecDepth 100000
open Go Go.Ab
variable {P:Program}
attribute [local irreducible] d8
theorem b7v (C:Laid P) (cells ops d9:List (List PV)) (hc:∀ r ∈ cells,a4u r):∃ H,(a4s H∧∃ h,LeR H (h.map k9)∧H.length=h.length∧a5U h)∧j6 P G F8 [.agg [.sl 5 cells,.sl 5 ops,.sl 1 d9]] [] (.sl 7 H):=by
 obtain ⟨H,hI,h2⟩:=b9O (fun H=>a4s H∧∃ h,LeR H (h.map k9)∧H.length=h.length∧a5U h) ⟨⟨[],rfl,by simp,b1R⟩,a1e,c1t,rfl,c3l⟩ (j6 P G) cells ops d9 hc (First.ok C) (fun K A B N S H hA hB hN _ hlt ⟨⟨more,em,hm,hall⟩,h,e,hl,t⟩=>by
  obtain ⟨r,h1,h2⟩:=b3Q (FV h) (j6 P G) H K A B N S hA hB hN (fun K' A' B' N' S' a b n=>b6n C t.1 e K' A' B' N' S' a b n) (b6l C) (b6m C)
  obtain ⟨c,ec,c1,c2,c3,c4⟩:=b8O h1
  have ml:H.length=10+more.length:=by rw [em,List.length_append];rfl
  refine ⟨r,⟨b8N h1,⟨more++[r],by rw [em,List.append_assoc],by simp;omega,?_⟩,h++[c],by rw [List.map_append];exact e.append (.cons ec .nil),by simp [hl],t.app (by omega) c1 c2 c3 c4⟩,a6u C (a3H C) rfl h2⟩
  intro x hx
  rcases List.mem_append.1 hx with hx | hx
  ·exact hall x hx
  ·simp only [List.mem_singleton] at hx;subst hx;exact b8N h1)
 exact ⟨H,hI,a6u C (a7V C) rfl h2⟩
end Go.Ab.Td
