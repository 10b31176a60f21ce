/- A part of the proof: the texts TdPart. Under: nothing. -/
import Derived.Test.YtngmifmcohmfmaaDoorG07
import Derived.KernelRfl
set_option linter.unusedVariables false
namespace Go.Ab.Td
set_option maxRecDepth 100000
set_option maxRecDepth 100000
open Go Go.Ab
def O7 (r:List PV):Prop:=∃ (k:Int) (e:Bool) (n:Int) (s:List UInt8) (rf o l:Int),n<9223372036854775808∧r=[.int .i64 k,.bool e,.int .i64 n,.str s,.int .i64 rf,.int .i64 o,.int .i64 l]
theorem w6 (x:Int):IntKind.i64.wrap x<9223372036854775808:=by
 show (if (true&&decide (x % (2 ^ 64:Int)≥(2 ^ 63:Int)))=true then x % (2 ^ 64:Int) - (2 ^ 64:Int) else x % (2 ^ 64:Int))<_
 by_cases h:x % (2 ^ 64:Int)≥(2 ^ 63:Int)
 ·simp only [h,decide_true,Bool.and_true,if_true];omega
 ·simp only [h,decide_false,Bool.and_false,Bool.false_eq_true,if_false];omega
theorem w5 (x:Int) {m:Int} (h0:0<m) (h1:m≤9223372036854775808):x.tmod m<9223372036854775808:=by
 have:=Int.tmod_lt_of_pos x h0
 omega
def SlR (q:PV) (m:Nat):Prop:=(q= .emp 7∧m=0)∨∃ rr:List (List PV),q= .sl 7 rr∧rr.length=m∧m≤1000∧∀ x ∈ rr,O7 x
def Byl (k:Int) (b:List UInt8) (m:Nat):Prop:=b.length≤4000∧(k=1→b.length≤1000∧m=0)∧(k=2→b=[])
def a2t (r:List PV):Prop:=∃ (k:Int) (by':List UInt8) (its ks vs:PV) (mx at':Int) (m1 m2 m3:Nat),r=[.int .i64 k,.str by',its,ks,vs,.int .i64 mx,.int .i64 at']∧Byl k by' m1∧SlR its m1∧SlR ks m2∧SlR vs m3
theorem a2t.k {r:List PV} (h:a2t r):c2o r:=by
 obtain ⟨k,a,b,c,d,e,f,_,_,_,rfl,_⟩:=h
 exact ⟨_,_,_,_,_,_,_,rfl⟩
def F0 (K A B N:Int) (S:List UInt8):PV:=.agg [.int .u8 K,.int .u8 A,.int .u8 B,.int .i32 N,.str S]
attribute [local irreducible] j6
section
variable (Ok:Nat→List PV→Own→PV→Prop) (rows:List (List PV)) (hr:∀ r ∈ rows,a2t r)
variable (hP:∀ kind n,0≤n→Ok J0 [.sl 7 rows,.int .i64 kind,.int .i64 n] [] (.int .i64 (n8 rows kind n)))
variable (kd K A B N:Int) (S:List UInt8) (hA:0≤A∧A<256) (hB:0≤B∧B<256)
include hr hP hA hB
set_option maxHeartbeats 1000000 in
theorem c4G:∃ r,O7 r∧fnW wG Ok noX noT noT 0 R9 [.sl 7 rows,.int .i64 kd,.int .i64 1,F0 K A B N S] (.agg r):=by
 have hw:IntKind.i64.wrap A=A:=wrap_small (by omega) (by omega)
 have hp:=hP 1 (IntKind.i64.wrap A) (by omega)
 rcases a1D (rows:=rows) (kind:=1) (n:=IntKind.i64.wrap A) with h | ⟨j,row,h,hrow,hk⟩
 ·rw [h] at hp
  apply Exists.intro
  apply And.intro
  rotate_left
  ·conv=>whnf
   refine ⟨_,_,hp,?_⟩
   conv=>whnf
  ·exact ⟨_,_,_,_,_,_,_,by first | assumption | decide | exact w6 _ | exact w5 _ (by decide) (by decide),rfl⟩
 ·rw [h] at hp
  have hjl:j<rows.length:=(List.getElem?_eq_some_iff.1 hrow).1
  obtain ⟨k,by',its,ks,vs,mx,at',m1,m2,m3,rfl,hby,h1,h2,h3⟩:=hr row (List.mem_of_getElem? hrow)
  replace hby:=hby.1
  have hm1:m1≤1000:=by rcases h1 with ⟨_,h⟩ | ⟨_,_,_,h,_⟩ <;>omega
  have w1:IntKind.i64.wrap ((by'.length:Int)+(m1:Int))=(by'.length:Int)+(m1:Int):=wrap_small (by omega) (by omega)
  have w2:IntKind.i64.wrap ((by'.length:Int)+(m1:Int)+1)=(by'.length:Int)+(m1:Int)+1:=wrap_small (by omega) (by omega)
  have wB:IntKind.i64.wrap B=B:=wrap_small (by omega) (by omega)
  have hne1:IntKind.i64.wrap (IntKind.i64.wrap ((by'.length:Int)+(m1:Int))+1)≠0:=by rw [w1,w2];omega
  have hne2:IntKind.i64.wrap (IntKind.i64.wrap (IntKind.i64.wrap ((by'.length:Int)+(m1:Int)) - (IntKind.i64.wrap B).tmod (IntKind.i64.wrap (IntKind.i64.wrap ((by'.length:Int)+(m1:Int))+1)))+1)≠0:=by
   rw [w1,w2,wB]
   have t1:=Int.tmod_nonneg ((by'.length:Int)+(m1:Int)+1) hB.1
   have t2:=Int.tmod_lt_of_pos B (show 0<(by'.length:Int)+(m1:Int)+1 by omega)
   have w3:IntKind.i64.wrap ((by'.length:Int)+(m1:Int) - B.tmod ((by'.length:Int)+(m1:Int)+1))=(by'.length:Int)+(m1:Int) - B.tmod ((by'.length:Int)+(m1:Int)+1):=wrap_small (by omega) (by omega)
   rw [w3,wrap_small (by omega) (by omega)]
   omega
  have hrow':rows[(j:Int).toNat]?=some [.int .i64 k,.str by',its,ks,vs,.int .i64 mx,.int .i64 at']:=by simpa using hrow
  rcases h1 with ⟨rfl,rfl⟩ | ⟨rr,rfl,rfl,_,_⟩ <;>cases hb:(B.tmod 3==2)
  ·apply Exists.intro
   apply And.intro
   rotate_left
   ·conv=>whnf
    refine ⟨_,_,hp,?_⟩
    conv=>whnf
    refine g9 (i4 (rows:=rows) (j:=(j:Int)) rfl rfl (by omega) hrow') ?_
    conv=>whnf
    refine g9 (i4 (rows:=rows) (j:=(j:Int)) rfl rfl (by omega) hrow') ?_
    conv=>whnf
    refine l8 (by kernel_rfl) ?_
    conv=>whnf
    refine d8 hb ?_
    conv=>whnf
   ·exact ⟨_,_,_,_,_,_,_,by first | assumption | decide | exact w6 _ | exact w5 _ (by decide) (by decide),rfl⟩
  ·apply Exists.intro
   apply And.intro
   rotate_left
   ·conv=>whnf
    refine ⟨_,_,hp,?_⟩
    conv=>whnf
    refine g9 (i4 (rows:=rows) (j:=(j:Int)) rfl rfl (by omega) hrow') ?_
    conv=>whnf
    refine g9 (i4 (rows:=rows) (j:=(j:Int)) rfl rfl (by omega) hrow') ?_
    conv=>whnf
    refine l8 (by kernel_rfl) ?_
    conv=>whnf
    refine l8 hb ?_
    conv=>whnf
    refine g9 (D7 (k:=.i64) (a:=IntKind.i64.wrap B) (by rfl) (by rfl) hne1) ?_
    conv=>whnf
    refine g9 (D7 (k:=.i64) (a:=IntKind.i64.wrap ((IntKind.i64.wrap B).tdiv 3)) (by rfl) (by rfl) hne2) ?_
    conv=>whnf
   ·exact ⟨_,_,_,_,_,_,_,by first | assumption | decide | exact w6 _ | exact w5 _ (by decide) (by decide),rfl⟩
  ·apply Exists.intro
   apply And.intro
   rotate_left
   ·conv=>whnf
    refine ⟨_,_,hp,?_⟩
    conv=>whnf
    refine g9 (i4 (rows:=rows) (j:=(j:Int)) rfl rfl (by omega) hrow') ?_
    conv=>whnf
    refine g9 (i4 (rows:=rows) (j:=(j:Int)) rfl rfl (by omega) hrow') ?_
    conv=>whnf
    refine l8 (by kernel_rfl) ?_
    conv=>whnf
    refine d8 hb ?_
    conv=>whnf
   ·exact ⟨_,_,_,_,_,_,_,by first | assumption | decide | exact w6 _ | exact w5 _ (by decide) (by decide),rfl⟩
  ·apply Exists.intro
   apply And.intro
   rotate_left
   ·conv=>whnf
    refine ⟨_,_,hp,?_⟩
    conv=>whnf
    refine g9 (i4 (rows:=rows) (j:=(j:Int)) rfl rfl (by omega) hrow') ?_
    conv=>whnf
    refine g9 (i4 (rows:=rows) (j:=(j:Int)) rfl rfl (by omega) hrow') ?_
    conv=>whnf
    refine l8 (by kernel_rfl) ?_
    conv=>whnf
    refine l8 hb ?_
    conv=>whnf
    refine g9 (D7 (k:=.i64) (a:=IntKind.i64.wrap B) (by rfl) (by rfl) hne1) ?_
    conv=>whnf
    refine g9 (D7 (k:=.i64) (a:=IntKind.i64.wrap ((IntKind.i64.wrap B).tdiv 3)) (by rfl) (by rfl) hne2) ?_
    conv=>whnf
   ·exact ⟨_,_,_,_,_,_,_,by first | assumption | decide | exact w6 _ | exact w5 _ (by decide) (by decide),rfl⟩
set_option maxHeartbeats 1000000 in
theorem c4H:∃ r,O7 r∧fnW wG Ok noX noT noT 0 R9 [.sl 7 rows,.int .i64 kd,.int .i64 2,F0 K A B N S] (.agg r):=by
 have hw:IntKind.i64.wrap A=A:=wrap_small (by omega) (by omega)
 have hp:=hP 2 (IntKind.i64.wrap A) (by omega)
 rcases a1D (rows:=rows) (kind:=2) (n:=IntKind.i64.wrap A) with h | ⟨j,row,h,hrow,hk⟩
 ·rw [h] at hp
  apply Exists.intro
  apply And.intro
  rotate_left
  ·conv=>whnf
   refine ⟨_,_,hp,?_⟩
   conv=>whnf
  ·exact ⟨_,_,_,_,_,_,_,by first | assumption | decide | exact w6 _ | exact w5 _ (by decide) (by decide),rfl⟩
 ·rw [h] at hp
  have hjl:j<rows.length:=(List.getElem?_eq_some_iff.1 hrow).1
  obtain ⟨k,by',its,ks,vs,mx,at',m1,m2,m3,rfl,hby,h1,h2,h3⟩:=hr row (List.mem_of_getElem? hrow)
  replace hby:=hby.1
  have hm1:m1≤1000:=by rcases h1 with ⟨_,h⟩ | ⟨_,_,_,h,_⟩ <;>omega
  have w1:IntKind.i64.wrap ((by'.length:Int)+(m1:Int))=(by'.length:Int)+(m1:Int):=wrap_small (by omega) (by omega)
  have w2:IntKind.i64.wrap ((by'.length:Int)+(m1:Int)+1)=(by'.length:Int)+(m1:Int)+1:=wrap_small (by omega) (by omega)
  have wB:IntKind.i64.wrap B=B:=wrap_small (by omega) (by omega)
  have hne1:IntKind.i64.wrap (IntKind.i64.wrap ((by'.length:Int)+(m1:Int))+1)≠0:=by rw [w1,w2];omega
  have hne2:IntKind.i64.wrap (IntKind.i64.wrap (IntKind.i64.wrap ((by'.length:Int)+(m1:Int)) - (IntKind.i64.wrap B).tmod (IntKind.i64.wrap (IntKind.i64.wrap ((by'.length:Int)+(m1:Int))+1)))+1)≠0:=by
   rw [w1,w2,wB]
   have t1:=Int.tmod_nonneg ((by'.length:Int)+(m1:Int)+1) hB.1
   have t2:=Int.tmod_lt_of_pos B (show 0<(by'.length:Int)+(m1:Int)+1 by omega)
   have w3:IntKind.i64.wrap ((by'.length:Int)+(m1:Int) - B.tmod ((by'.length:Int)+(m1:Int)+1))=(by'.length:Int)+(m1:Int) - B.tmod ((by'.length:Int)+(m1:Int)+1):=wrap_small (by omega) (by omega)
   rw [w3,wrap_small (by omega) (by omega)]
   omega
  have hrow':rows[(j:Int).toNat]?=some [.int .i64 k,.str by',its,ks,vs,.int .i64 mx,.int .i64 at']:=by simpa using hrow
  rcases h1 with ⟨rfl,rfl⟩ | ⟨rr,rfl,rfl,_,_⟩ <;>cases hb:(B.tmod 3==2)
  ·apply Exists.intro
   apply And.intro
   rotate_left
   ·conv=>whnf
    refine ⟨_,_,hp,?_⟩
    conv=>whnf
    refine g9 (i4 (rows:=rows) (j:=(j:Int)) rfl rfl (by omega) hrow') ?_
    conv=>whnf
    refine g9 (i4 (rows:=rows) (j:=(j:Int)) rfl rfl (by omega) hrow') ?_
    conv=>whnf
    refine l8 (by kernel_rfl) ?_
    conv=>whnf
    refine d8 hb ?_
    conv=>whnf
   ·exact ⟨_,_,_,_,_,_,_,by first | assumption | decide | exact w6 _ | exact w5 _ (by decide) (by decide),rfl⟩
  ·apply Exists.intro
   apply And.intro
   rotate_left
   ·conv=>whnf
    refine ⟨_,_,hp,?_⟩
    conv=>whnf
    refine g9 (i4 (rows:=rows) (j:=(j:Int)) rfl rfl (by omega) hrow') ?_
    conv=>whnf
    refine g9 (i4 (rows:=rows) (j:=(j:Int)) rfl rfl (by omega) hrow') ?_
    conv=>whnf
    refine l8 (by kernel_rfl) ?_
    conv=>whnf
    refine l8 hb ?_
    conv=>whnf
    refine g9 (D7 (k:=.i64) (a:=IntKind.i64.wrap B) (by rfl) (by rfl) hne1) ?_
    conv=>whnf
    refine g9 (D7 (k:=.i64) (a:=IntKind.i64.wrap ((IntKind.i64.wrap B).tdiv 3)) (by rfl) (by rfl) hne2) ?_
    conv=>whnf
   ·exact ⟨_,_,_,_,_,_,_,by first | assumption | decide | exact w6 _ | exact w5 _ (by decide) (by decide),rfl⟩
  ·apply Exists.intro
   apply And.intro
   rotate_left
   ·conv=>whnf
    refine ⟨_,_,hp,?_⟩
    conv=>whnf
    refine g9 (i4 (rows:=rows) (j:=(j:Int)) rfl rfl (by omega) hrow') ?_
    conv=>whnf
    refine g9 (i4 (rows:=rows) (j:=(j:Int)) rfl rfl (by omega) hrow') ?_
    conv=>whnf
    refine l8 (by kernel_rfl) ?_
    conv=>whnf
    refine d8 hb ?_
    conv=>whnf
   ·exact ⟨_,_,_,_,_,_,_,by first | assumption | decide | exact w6 _ | exact w5 _ (by decide) (by decide),rfl⟩
  ·apply Exists.intro
   apply And.intro
   rotate_left
   ·conv=>whnf
    refine ⟨_,_,hp,?_⟩
    conv=>whnf
    refine g9 (i4 (rows:=rows) (j:=(j:Int)) rfl rfl (by omega) hrow') ?_
    conv=>whnf
    refine g9 (i4 (rows:=rows) (j:=(j:Int)) rfl rfl (by omega) hrow') ?_
    conv=>whnf
    refine l8 (by kernel_rfl) ?_
    conv=>whnf
    refine l8 hb ?_
    conv=>whnf
    refine g9 (D7 (k:=.i64) (a:=IntKind.i64.wrap B) (by rfl) (by rfl) hne1) ?_
    conv=>whnf
    refine g9 (D7 (k:=.i64) (a:=IntKind.i64.wrap ((IntKind.i64.wrap B).tdiv 3)) (by rfl) (by rfl) hne2) ?_
    conv=>whnf
   ·exact ⟨_,_,_,_,_,_,_,by first | assumption | decide | exact w6 _ | exact w5 _ (by decide) (by decide),rfl⟩
set_option maxHeartbeats 1000000 in
omit hr hB in
theorem c4I:∃ r,O7 r∧fnW wG Ok noX noT noT 0 R9 [.sl 7 rows,.int .i64 kd,.int .i64 3,F0 K A B N S] (.agg r):=by
 have hw:IntKind.i64.wrap A=A:=wrap_small (by omega) (by omega)
 have hp:=hP 3 (IntKind.i64.wrap A) (by omega)
 rcases a1D (rows:=rows) (kind:=3) (n:=IntKind.i64.wrap A) with h | ⟨j,row,h,hrow,hk⟩
 ·rw [h] at hp
  apply Exists.intro
  apply And.intro
  rotate_left
  ·conv=>whnf
   refine ⟨_,_,hp,?_⟩
   conv=>whnf
  ·exact ⟨_,_,_,_,_,_,_,by first | assumption | decide | exact w6 _ | exact w5 _ (by decide) (by decide),rfl⟩
 ·rw [h] at hp
  apply Exists.intro
  apply And.intro
  rotate_left
  ·conv=>whnf
   refine ⟨_,_,hp,?_⟩
   conv=>whnf
  ·exact ⟨_,_,_,_,_,_,_,by first | assumption | decide | exact w6 _ | exact w5 _ (by decide) (by decide),rfl⟩
set_option maxHeartbeats 1000000 in
omit hr hB in
theorem c4J:∃ r,O7 r∧fnW wG Ok noX noT noT 0 R9 [.sl 7 rows,.int .i64 kd,.int .i64 4,F0 K A B N S] (.agg r):=by
 have hw:IntKind.i64.wrap A=A:=wrap_small (by omega) (by omega)
 have hp:=hP 4 (IntKind.i64.wrap A) (by omega)
 rcases a1D (rows:=rows) (kind:=4) (n:=IntKind.i64.wrap A) with h | ⟨j,row,h,hrow,hk⟩
 ·rw [h] at hp
  apply Exists.intro
  apply And.intro
  rotate_left
  ·conv=>whnf
   refine ⟨_,_,hp,?_⟩
   conv=>whnf
  ·exact ⟨_,_,_,_,_,_,_,by first | assumption | decide | exact w6 _ | exact w5 _ (by decide) (by decide),rfl⟩
 ·rw [h] at hp
  apply Exists.intro
  apply And.intro
  rotate_left
  ·conv=>whnf
   refine ⟨_,_,hp,?_⟩
   conv=>whnf
  ·exact ⟨_,_,_,_,_,_,_,by first | assumption | decide | exact w6 _ | exact w5 _ (by decide) (by decide),rfl⟩
end
end Go.Ab.Td
