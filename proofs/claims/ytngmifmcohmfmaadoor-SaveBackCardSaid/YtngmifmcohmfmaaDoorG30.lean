/- A part of the proof: the texts TdVx. Under: nothing. -/
import Derived.Test.YtngmifmcohmfmaaDoorG29
set_option linter.unusedVariables false
namespace Go.Ab.Td
set_option maxRecDepth 100000
set_option maxRecDepth 100000
open Go Go.Ab
variable {P:Program}
set_option linter.unusedSimpArgs false
def VH (h:List Cl):Prop:=Y2 h∧h.length≤20000
theorem VH.small {h:List Cl} (t:VH h):small h:=b1X t.1 (by have:=t.2;omega)
theorem a7c {h:List Cl} {c:Cl} (hr:Y7 h c):(c.kind=1→c.items=[]∧c.bytes.length≤1000)∧(c.kind=2→c.bytes=[]∧c.items.length≤1000):=by
 rcases hr with ⟨k,h1,h2, -⟩ | ⟨k,h1,h2, -⟩ | ⟨k, -⟩ | ⟨k, -⟩
 ·exact ⟨fun _=>⟨List.length_eq_zero_iff.1 h2,h1⟩,fun e=>by omega⟩
 ·exact ⟨fun e=>by omega,fun _=>⟨h1,h2⟩⟩
 ·exact ⟨fun e=>by omega,fun e=>by omega⟩
 ·exact ⟨fun e=>by omega,fun e=>by omega⟩
theorem a3D {h:List Cl} (t:VH h) {kd cl A B N:Int} (hk:(kd=6∧cl=1)∨((kd=7∨kd=8)∧cl=2)∨(kd=9∧cl=3)∨(kd=11∧cl=4)) (hA:0≤A∧A<256) (hB:0≤B∧B<256):fits h (a1s h kd cl A B N):=by
 unfold a1s
 by_cases hp:k9 (h.map j8) cl A<0
 ·rw [if_pos hp];exact fits_int (by omega) (by omega) false
 ·rw [if_neg hp]
  obtain ⟨j,c,ej,hc,hcl,hj⟩:=b6N hp
  have hl:=t.2
  have hs:=a7c (t.1.1 c (List.mem_of_getElem? hc))
  rw [ej]
  have hc':h[((j:Int)).toNat]?=some c:=by simpa using hc
  by_cases h3:cl=3∨cl=4
  ·rw [if_pos h3]
   have hkd:kd=9∧cl=3∨kd=11∧cl=4:=by omega
   refine ⟨?_,fun _=>⟨c,hc',?_,fun hx=>?_⟩⟩
   ·rcases hkd with ⟨rfl,_⟩ | ⟨rfl,_⟩ <;>(unfold Ob.right Ob.blank;simp;omega)
   ·rcases hkd with ⟨rfl,rfl⟩ | ⟨rfl,rfl⟩ <;>exact hcl
   ·dsimp only at hx;omega
  ·rw [if_neg h3]
   have hkd:kd=6∧cl=1∨(kd=7∨kd=8)∧cl=2:=by omega
   have hlen:(c.length:Int)=(c.bytes.length:Int)+c.items.length∧c.length≤1000:=by
    unfold Cl.length
    rcases hkd with ⟨_,rfl⟩ | ⟨_,rfl⟩
    ·obtain ⟨e1,e2⟩:=hs.1 hcl
     rw [if_pos hcl,e1];simp;omega
    ·obtain ⟨e1,e2⟩:=hs.2 hcl
     rw [if_neg (by omega),e1];simp;omega
   have fin:∀ (e:Bool) (o l:Int),0≤o→0≤l→o+l≤c.length→fits h ⟨kd,e,0,[],(j:Int),o,l⟩:=by
    intro e o l h1 h2 h3
    refine ⟨?_,fun _=>⟨c,hc',?_,fun _=>h3⟩⟩
    ·rcases hkd with ⟨rfl,_⟩ | ⟨rfl | rfl,_⟩ <;>(unfold Ob.right Ob.blank;simp;omega)
    ·rcases hkd with ⟨rfl,rfl⟩ | ⟨rfl | rfl,rfl⟩ <;>exact hcl
   simp only [hc',Option.getD_some]
   rw [← hlen.1]
   have hn0:0≤c.length:=by omega
   split
   ·have t1:=Int.tmod_nonneg (c.length+1) hB.1
    have t2:=Int.tmod_lt_of_pos B (show 0<c.length+1 by omega)
    have t3:=Int.tmod_nonneg (c.length - B.tmod (c.length+1)+1) (Int.tdiv_nonneg hB.1 (show (0:Int)≤3 by decide))
    have t4:=Int.tmod_lt_of_pos (B.tdiv 3) (show 0<c.length - B.tmod (c.length+1)+1 by omega)
    exact fin _ _ _ t1 t3 (by omega)
   ·exact fin _ _ _ (by decide) hn0 (by omega)
theorem b5m {h:List Cl} (t:VH h) (K A B N:Int) (hA:0≤A∧A<256) (hB:0≤B∧B<256) (hN: -2147483648≤N∧N≤2147483647):fits h (b0g h K A B N):=by
 have r2:0≤A.tmod 2∧A.tmod 2<2:=⟨Int.tmod_nonneg _ hA.1,Int.tmod_lt_of_pos _ (by decide)⟩
 have r10: -10<N.tmod 10∧N.tmod 10<10:=⟨Int.lt_tmod_of_pos _ (by decide),Int.tmod_lt_of_pos _ (by decide)⟩
 have r20: -1048576<N.tmod 1048576∧N.tmod 1048576<1048576:=⟨Int.lt_tmod_of_pos _ (by decide),Int.tmod_lt_of_pos _ (by decide)⟩
 have wl:=b8C A
 unfold b0g
 refine p9 (fun _=>v3 (by unfold Ob.right Ob.blank ob0;simp) rfl) fun _=>?_
 refine p9 (fun _=>v3 (by unfold Ob.right Ob.blank;simp) rfl) fun _=>?_
 refine p9 (fun _=>v3 (by unfold Ob.right Ob.blank;simp;omega) rfl) fun _=>?_
 refine p9 (fun _=>fits_int (by omega) (by omega) false) fun _=>?_
 refine p9 (fun _=>fits_int (by omega) (by omega) false) fun _=>?_
 refine p9 (fun _=>v3 (by unfold Ob.right Ob.blank;simp;omega) rfl) fun _=>?_
 refine p9 (fun _=>v3 (by unfold Ob.right Ob.blank;simp;omega) rfl) fun _=>?_
 refine p9 (fun _=>v3 (by unfold Ob.right Ob.blank;simp;omega) rfl) fun _=>?_
 refine p9 (fun _=>a3D t (by omega) hA hB) fun _=>?_
 refine p9 (fun _=>a3D t (by omega) hA hB) fun _=>?_
 refine p9 (fun _=>a3D t (by omega) hA hB) fun _=>?_
 refine p9 (fun _=>a3D t (by omega) hA hB) fun _=>?_
 refine p9 (fun _=>v3 (by unfold Ob.right Ob.blank;simp) rfl) fun _=>?_
 exact a3D t (by omega) hA hB
theorem c3n (C:Laid P) {h:List Cl} (t:VH h) {H:List (List PV)} (e:LeR H (h.map j8)) (K A B N:Int) (S:List UInt8) (hA:0≤A∧A<256) (hB:0≤B∧B<256) (hN: -2147483648≤N∧N≤2147483647):∃ r,(FV h r∧a3u r)∧j4 P G e8 [D4 K A B N S,.sl 7 H] [] (.agg r):=by
 have f:FV h (i4 (b0g h K A B N)):=⟨_,rfl,b5m t K A B N hA hB hN,c0I h K A B N hA hN⟩
 exact ⟨_,⟨f,b2y f⟩,b0r (T9 C h t.small K A B N S hA hB hN) (.cons (.refl _) (.cons (c0D e) .nil))⟩
theorem c1D (C:Laid P) {h:List Cl} (t:VH h) (K A B N:Int) (S:List UInt8) (hA:0≤A∧A<256) (hB:0≤B∧B<256) (hN: -2147483648≤N∧N≤2147483647):∃ c:Cl,(a7Z c∧Y7 h c∧0≤c.size∧c.size≤41)∧j4 P G o0 [D4 K A B N S,.sl 7 (List.map j8 h)] [] (aC c):=by
 obtain ⟨r,h1,h2⟩:=b5f (FV h) (j4 P G) (h.map j8) K A B N S hA hB hN (fun K' A' B' N' S' a b n=>c3n C t (LeR.refl _) K' A' B' N' S' a b n) (b7N C) (b7O C)
 obtain ⟨c,e,hc⟩:=c0n h1
 exact ⟨c,hc,c0J (a7u C (a4p C) rfl h2) (p8 e)⟩
end Go.Ab.Td
