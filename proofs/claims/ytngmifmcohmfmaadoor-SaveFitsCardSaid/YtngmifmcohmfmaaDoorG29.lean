/- A part of the proof: the texts TdVx. Under: nothing. -/
import Derived.Test.YtngmifmcohmfmaaDoorG28
set_option linter.unusedVariables false
namespace Go.Ab.Td
set_option maxRecDepth 100000
set_option maxRecDepth 100000
open Go Go.Ab
variable {P:Program}
set_option linter.unusedSimpArgs false
def VH (h:List Cl):Prop:=X7 h∧h.length≤20000
theorem VH.small {h:List Cl} (t:VH h):small h:=b1H t.1 (by have:=t.2;omega)
theorem a6M {h:List Cl} {c:Cl} (hr:Y1 h c):(c.kind=1→c.items=[]∧c.bytes.length≤1000)∧(c.kind=2→c.bytes=[]∧c.items.length≤1000):=by
 rcases hr with ⟨k,h1,h2, -⟩ | ⟨k,h1,h2, -⟩ | ⟨k, -⟩ | ⟨k, -⟩
 ·exact ⟨fun _=>⟨List.length_eq_zero_iff.1 h2,h1⟩,fun e=>by omega⟩
 ·exact ⟨fun e=>by omega,fun _=>⟨h1,h2⟩⟩
 ·exact ⟨fun e=>by omega,fun e=>by omega⟩
 ·exact ⟨fun e=>by omega,fun e=>by omega⟩
theorem a3A {h:List Cl} (t:VH h) {kd cl A B N:Int} (hk:(kd=6∧cl=1)∨((kd=7∨kd=8)∧cl=2)∨(kd=9∧cl=3)∨(kd=11∧cl=4)) (hA:0≤A∧A<256) (hB:0≤B∧B<256):fits h (a1q h kd cl A B N):=by
 unfold a1q
 by_cases hp:l7 (h.map j6) cl A<0
 ·rw [if_pos hp];exact fits_int (by omega) (by omega) false
 ·rw [if_neg hp]
  obtain ⟨j,c,ej,hc,hcl,hj⟩:=b6y hp
  have hl:=t.2
  have hs:=a6M (t.1.1 c (List.mem_of_getElem? hc))
  rw [ej]
  have hc':h[((j:Int)).toNat]?=some c:=by simpa using hc
  by_cases h3:cl=3∨cl=4
  ·rw [if_pos h3]
   have hkd:kd=9∧cl=3∨kd=11∧cl=4:=by omega
   refine ⟨?_,fun _=>⟨c,hc',?_,fun hx=>?_⟩⟩
   ·rcases hkd with ⟨rfl,_⟩ | ⟨rfl,_⟩ <;>(unfold Ob.right Ob.blank;simp;omega)
   ·rcases hkd with ⟨rfl,rfl⟩ | ⟨rfl,rfl⟩ <;>exact hcl
   ·dsimp only at hx;omega
  ·rw [if_neg h3]
   have hkd:kd=6∧cl=1∨(kd=7∨kd=8)∧cl=2:=by omega
   have hlen:(c.length:Int)=(c.bytes.length:Int)+c.items.length∧c.length≤1000:=by
    unfold Cl.length
    rcases hkd with ⟨_,rfl⟩ | ⟨_,rfl⟩
    ·obtain ⟨e1,e2⟩:=hs.1 hcl
     rw [if_pos hcl,e1];simp;omega
    ·obtain ⟨e1,e2⟩:=hs.2 hcl
     rw [if_neg (by omega),e1];simp;omega
   have fin:∀ (e:Bool) (o l:Int),0≤o→0≤l→o+l≤c.length→fits h ⟨kd,e,0,[],(j:Int),o,l⟩:=by
    intro e o l h1 h2 h3
    refine ⟨?_,fun _=>⟨c,hc',?_,fun _=>h3⟩⟩
    ·rcases hkd with ⟨rfl,_⟩ | ⟨rfl | rfl,_⟩ <;>(unfold Ob.right Ob.blank;simp;omega)
    ·rcases hkd with ⟨rfl,rfl⟩ | ⟨rfl | rfl,rfl⟩ <;>exact hcl
   simp only [hc',Option.getD_some]
   rw [← hlen.1]
   have hn0:0≤c.length:=by omega
   split
   ·have t1:=Int.tmod_nonneg (c.length+1) hB.1
    have t2:=Int.tmod_lt_of_pos B (show 0<c.length+1 by omega)
    have t3:=Int.tmod_nonneg (c.length - B.tmod (c.length+1)+1) (Int.tdiv_nonneg hB.1 (show (0:Int)≤3 by decide))
    have t4:=Int.tmod_lt_of_pos (B.tdiv 3) (show 0<c.length - B.tmod (c.length+1)+1 by omega)
    exact fin _ _ _ t1 t3 (by omega)
   ·exact fin _ _ _ (by decide) hn0 (by omega)
theorem b4Z {h:List Cl} (t:VH h) (K A B N:Int) (hA:0≤A∧A<256) (hB:0≤B∧B<256) (hN: -2147483648≤N∧N≤2147483647):fits h (a9O h K A B N):=by
 have r2:0≤A.tmod 2∧A.tmod 2<2:=⟨Int.tmod_nonneg _ hA.1,Int.tmod_lt_of_pos _ (by decide)⟩
 have r10: -10<N.tmod 10∧N.tmod 10<10:=⟨Int.lt_tmod_of_pos _ (by decide),Int.tmod_lt_of_pos _ (by decide)⟩
 have r20: -1048576<N.tmod 1048576∧N.tmod 1048576<1048576:=⟨Int.lt_tmod_of_pos _ (by decide),Int.tmod_lt_of_pos _ (by decide)⟩
 have wl:=b8k A
 unfold a9O
 refine q9 (fun _=>v5 (by unfold Ob.right Ob.blank ob0;simp) rfl) fun _=>?_
 refine q9 (fun _=>v5 (by unfold Ob.right Ob.blank;simp) rfl) fun _=>?_
 refine q9 (fun _=>v5 (by unfold Ob.right Ob.blank;simp;omega) rfl) fun _=>?_
 refine q9 (fun _=>fits_int (by omega) (by omega) false) fun _=>?_
 refine q9 (fun _=>fits_int (by omega) (by omega) false) fun _=>?_
 refine q9 (fun _=>v5 (by unfold Ob.right Ob.blank;simp;omega) rfl) fun _=>?_
 refine q9 (fun _=>v5 (by unfold Ob.right Ob.blank;simp;omega) rfl) fun _=>?_
 refine q9 (fun _=>v5 (by unfold Ob.right Ob.blank;simp;omega) rfl) fun _=>?_
 refine q9 (fun _=>a3A t (by omega) hA hB) fun _=>?_
 refine q9 (fun _=>a3A t (by omega) hA hB) fun _=>?_
 refine q9 (fun _=>a3A t (by omega) hA hB) fun _=>?_
 refine q9 (fun _=>a3A t (by omega) hA hB) fun _=>?_
 refine q9 (fun _=>v5 (by unfold Ob.right Ob.blank;simp) rfl) fun _=>?_
 exact a3A t (by omega) hA hB
theorem c2M (C:Laid P) {h:List Cl} (t:VH h) {H:List (List PV)} (e:LeR H (h.map j6)) (K A B N:Int) (S:List UInt8) (hA:0≤A∧A<256) (hB:0≤B∧B<256) (hN: -2147483648≤N∧N≤2147483647):∃ r,(FV h r∧a3s r)∧j5 P G e9 [D2 K A B N S,.sl 7 H] [] (.agg r):=by
 have f:FV h (g8 (a9O h K A B N)):=⟨_,rfl,b4Z t K A B N hA hB hN,b9T h K A B N hA hN⟩
 exact ⟨_,⟨f,b2j f⟩,b0a (T4 C h t.small K A B N S hA hB hN) (.cons (.refl _) (.cons (b9P e) .nil))⟩
theorem c0L (C:Laid P) {h:List Cl} (t:VH h) (K A B N:Int) (S:List UInt8) (hA:0≤A∧A<256) (hB:0≤B∧B<256) (hN: -2147483648≤N∧N≤2147483647):∃ c:Cl,(a7K c∧Y1 h c∧0≤c.size∧c.size≤41)∧j5 P G o6 [D2 K A B N S,.sl 7 (List.map j6 h)] [] (aC c):=by
 obtain ⟨r,h1,h2⟩:=b4U (FV h) (j5 P G) (h.map j6) K A B N S hA hB hN (fun K' A' B' N' S' a b n=>c2M C t (LeR.refl _) K' A' B' N' S' a b n) (b7w C) (b7x C)
 obtain ⟨c,e,hc⟩:=b9z h1
 exact ⟨c,hc,b9U (a7d C (a4i C) rfl h2) (q8 e)⟩
end Go.Ab.Td
