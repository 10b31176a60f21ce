/- A part of the proof: the texts TdState, TdKitF, TdKit. Under: nothing. -/
import Derived.Test.YtngmifmcohmfmaaDoorG12
import Derived.Test.YtngmifmcohmfmaaDoorG05
set_option linter.unusedVariables false
namespace Go.Ab.Td
set_option maxRecDepth 100000
set_option maxRecDepth 100000
open Go Go.Ab
def c3G (a b c z:AV):List AV:=[a,b,c,.emp 3,.pv (.int .i64 (0)),.pv (.int .i64 (0)),.pv (.int .i64 (0)),.pv (.int .i64 (0)),.pv (.int .i64 (0)),.pv (.int .i64 (0)),.pv (.int .i64 (0)),.emp 7,.pv (.int .i64 (0)),.pv (.int .i64 (0)),.pv (.int .i64 (0)),.pv (.int .i64 (0)),.pv (.int .i64 (0)),.pv (.int .i64 (0)),.pv (.int .i64 (0)),.pv (.int .i64 (0)),.pv (.int .i64 (0)),.pv (.int .i64 (0)),.pv (.int .i64 (0)),.pv (.int .i64 (0)),.pv (.int .i64 (0)),.pv (.int .i64 (0)),.pv (.int .i64 (0)),.pv (.int .i64 (0)),.pv (.int .i64 (0)),.pv (.int .i64 (0)),.pv (.int .i64 (0)),.pv (.int .i64 (0)),.pv (.bool false),.pv (.bool false),.emp 47,.pv (.int .i64 (0)),.pv (.int .i64 (0)),.pv (.int .i64 (0)),.pv (.int .i64 (0)),.pv (.int .i64 (0)),.pv (.int .i64 (0)),.pv (.int .i64 (0)),.pv (.int .i64 (0)),.emp 1,.pv (.int .i64 (0)),.pv (.int .i64 (0)),.emp 2,.pv (.int .i64 (0)),.pv (.bool false),.pv (.int .i64 (0)),.pv (.str []),.pv (.int .i64 (0)),.pv (.int .i64 (0)),.pv (.int .i64 (0)),.pv (.int .i64 (0)),.pv (.int .i64 (0)),.pv (.int .i64 (0)),.pv (.int .i64 (0)),.pv (.int .i64 (0)),.pv (.int .i64 (0)),.pv (.int .i64 (0)),.pv (.int .i64 (0)),.emp 57,.emp 47,.emp 3,.pv (.str []),z]
def stV (o d h z:PV):PV:=.agg [o,d,h,.emp 3,.int .i64 (0),.int .i64 (0),.int .i64 (0),.int .i64 (0),.int .i64 (0),.int .i64 (0),.int .i64 (0),.emp 7,.int .i64 (0),.int .i64 (0),.int .i64 (0),.int .i64 (0),.int .i64 (0),.int .i64 (0),.int .i64 (0),.int .i64 (0),.int .i64 (0),.int .i64 (0),.int .i64 (0),.int .i64 (0),.int .i64 (0),.int .i64 (0),.int .i64 (0),.int .i64 (0),.int .i64 (0),.int .i64 (0),.int .i64 (0),.int .i64 (0),.bool false,.bool false,.emp 47,.int .i64 (0),.int .i64 (0),.int .i64 (0),.int .i64 (0),.int .i64 (0),.int .i64 (0),.int .i64 (0),.int .i64 (0),.emp 1,.int .i64 (0),.int .i64 (0),.emp 2,.int .i64 (0),.bool false,.int .i64 (0),.str [],.int .i64 (0),.int .i64 (0),.int .i64 (0),.int .i64 (0),.int .i64 (0),.int .i64 (0),.int .i64 (0),.int .i64 (0),.int .i64 (0),.int .i64 (0),.int .i64 (0),.emp 57,.emp 47,.emp 3,.str [],z]
theorem b7D {H:List (List PV)} (hH:a3W H) {n:Int} (hn:0≤n):0≤n8 H 3 n∧n8 H 3 n<H.length:=by
 obtain ⟨more,rfl,hm,hall⟩:=hH
 have hpos:∃ c:Nat,(idxs 3 0 (W5++more)).length=c+1:=by
  rw [a5R]
  exact ⟨_,rfl⟩
 obtain ⟨c,hc⟩:=hpos
 have hj:0≤n.tmod ((c+1:Nat):Int)∧n.tmod ((c+1:Nat):Int)<((c+1:Nat):Int):=⟨Int.tmod_nonneg _ hn,Int.tmod_lt_of_pos _ (by omega)⟩
 unfold n8
 rw [hc]
 obtain ⟨r,hr⟩:∃ r,(idxs 3 0 (W5++more))[(n.tmod ((c+1:Nat):Int)).toNat]?=some r:=⟨_,List.getElem?_eq_getElem (by omega)⟩
 rw [hr]
 obtain ⟨j,rfl,_,h3,_⟩:=a8c 3 _ 0 r (List.mem_of_getElem? hr)
 simp only []
 omega
def c2R (D H:List (List PV)):Prop:=2≤D.length∧D.length≤6∧∀ r ∈ D,∃ j:Int,r=X8 j∧0≤j∧j<H.length
section
variable (cells ops k8 H:List (List PV))
def drB:Nat × Option g8:=(0,some (.box 3 [[.pv (.sl 5 cells),.pv (.sl 5 ops),.pv (.sl 1 k8)]] false))
def zB:Nat × Option g8:=(1,some (.box 67 [c3G (.emp 7) (.emp 7) (.emp 7) (.pv (.int .i64 0))] false))
def sTm (k v:Nat) (w:Int):T:=(((T.nil.set e9 1 (.ptr 0 0 0)).set e9 2 (.ptr 1 0 0)).set e9 3 (.ptr k 0 0)).set e9 v (.pv (.int .i64 w))
def sSt (k:Nat) (v:Int) (c d:Nat) (D:List (List PV)):List (List PV)→St
 | []=>⟨sTm 2 k v,[drB cells ops k8,zB,(2,some (.box 67 [c3G (.emp 7) (.own 3 0 d) (.pv (.sl 7 H)) (.pv (.int .i64 1))] false)),(3,some (.arr 7 D false))],4,63⟩
 | x::L=>⟨sTm 2 k v,[drB cells ops k8,zB,(2,some (.box 67 [c3G (.own 3 0 c) (.own 4 0 d) (.pv (.sl 7 H)) (.pv (.int .i64 1))] false)),(3,some (.arr 7 (x::L) false)),(4,some (.arr 7 D false))],5,63⟩
end
attribute [local irreducible] j6
end Go.Ab.Td
namespace Go.Ab.Td
set_option maxRecDepth 100000
set_option maxRecDepth 100000
open Go Go.Ab
variable {P:Program}
namespace First
def tb (g:Nat):Option x4:=match g==r9 with | true=>some a0h | false=>match g==A1 with | true=>some a2d | false=>none
def tc (g:Nat):Option x4:=match g==x6 with | true=>some M6 | false=>tb g
def to (g:Nat):Option x4:=match g==A6 with | true=>some V1 | false=>none
theorem c2P (C:Laid P):∀ g c,tb g=some c→i5 P g c=true:=by
 intro g c h
 unfold tb at h
 split at h
 ·rename_i hg;cases h;rw [beq_iff_eq] at hg;subst hg;exact a2h C
 ·split at h
  ·rename_i hg;cases h;rw [beq_iff_eq] at hg;subst hg;exact a5c C
  ·cases h
theorem c5E (C:Laid P):∀ g c,tc g=some c→i5 P g c=true:=by
 intro g c h
 unfold tc at h
 split at h
 ·rename_i hg;cases h;rw [beq_iff_eq] at hg;subst hg;exact Y1 C
 ·exact c2P C g c h
theorem c5G (C:Laid P):∀ g c,to g=some c→i5 P g c=true:=by
 intro g c h
 unfold to at h
 split at h
 ·rename_i hg;cases h;rw [beq_iff_eq] at hg;subst hg;exact a3J C
 ·cases h
theorem run:isR [(0,0)] (.sl 7 W5) ((a4O G kn0 noX tb noT tc to 10000 20).call A6 [.sl 1 [[.str b2a],[.str b2b]]])=true:=by kernel_rfl
theorem ok (C:Laid P):l9 P G A6 [.sl 1 [[.str b2a],[.str b2b]]] [(0,0)] (.sl 7 W5):=
 a9b C.mixed (fun _ _ _ _ h=>by cases h) (fun _ _ h=>by cases h) (c2P C) (fun _ _ h=>by cases h) (c5E C) (c5G C) (b5s run)
end First
end Go.Ab.Td
namespace Go.Ab.Td
set_option maxRecDepth 100000
set_option maxRecDepth 100000
open Go Go.Ab
variable {P:Program}
theorem a1R (C:Laid P) {g:Nat} {c:x4} {ps:List PV} {r:PV} (hk:i5 P g c=true) (hl:ps.length=c.nparams) (h:fnW G (l9 P G) noX noT noT 0 c ps r):l9 P G g ps [] r:=
 b2C C.mixed hk (fun _ _ h=>by cases h) (fun _ _ h=>by cases h) (fun _ _ h=>by cases h) hl h
theorem a5Y (C:Laid P) (rows:List (List PV)) (hr:∀ r ∈ rows,a2t r) (hl:rows.length≤1000000) (kind n:Int) (hn:0≤n):l9 P G J0 [.sl 7 rows,.int .i64 kind,.int .i64 n] [] (.int .i64 (n8 rows kind n)):=
 a1R C (a8l C) rfl (b4K _ rows kind n (fun r h=>(hr r h).k) hl hn)
section
variable (C:Laid P) (rows:List (List PV)) (hr:∀ r ∈ rows,a2t r) (hl:rows.length≤1000000) (kd K A B N:Int) (S:List UInt8) (hA:0≤A∧A<256) (hB:0≤B∧B<256)
include C hr hl hA
include hB in
theorem b7s:∃ r,O7 r∧l9 P G s0 [.sl 7 rows,.int .i64 kd,.int .i64 1,F0 K A B N S] [] (.agg r):=by
 obtain ⟨r,h1,h2⟩:=c4G (l9 P G) rows hr (a5Y C rows hr hl) kd K A B N S hA hB
 exact ⟨r,h1,a1R C (a0s C) rfl h2⟩
include hB in
theorem b2w:∃ r,O7 r∧l9 P G s0 [.sl 7 rows,.int .i64 kd,.int .i64 2,F0 K A B N S] [] (.agg r):=by
 obtain ⟨r,h1,h2⟩:=c4H (l9 P G) rows hr (a5Y C rows hr hl) kd K A B N S hA hB
 exact ⟨r,h1,a1R C (a0s C) rfl h2⟩
theorem b7t:∃ r,O7 r∧l9 P G s0 [.sl 7 rows,.int .i64 kd,.int .i64 3,F0 K A B N S] [] (.agg r):=by
 obtain ⟨r,h1,h2⟩:=c4I (l9 P G) rows (a5Y C rows hr hl) kd K A B N S hA
 exact ⟨r,h1,a1R C (a0s C) rfl h2⟩
theorem b7u:∃ r,O7 r∧l9 P G s0 [.sl 7 rows,.int .i64 kd,.int .i64 4,F0 K A B N S] [] (.agg r):=by
 obtain ⟨r,h1,h2⟩:=c4J (l9 P G) rows (a5Y C rows hr hl) kd K A B N S hA
 exact ⟨r,h1,a1R C (a0s C) rfl h2⟩
include hB in
theorem c0P:∃ r,O7 r∧l9 P G i7 [F0 K A B N S,.sl 7 rows] [] (.agg r):=by
 obtain ⟨r,h1,h2⟩:=c0U (l9 P G) rows K A B N S hA (b7s C rows hr hl 6 K A B N S hA hB) (b2w C rows hr hl 7 K A B N S hA hB) (b2w C rows hr hl 8 K A B N S hA hB) (b7t C rows hr hl 9 K A B N S hA) (b7u C rows hr hl 11 K A B N S hA)
 exact ⟨r,h1,a1R C (a4i C) rfl h2⟩
end
theorem b9b (C:Laid P) (n:Int):l9 P G r9 [.int .i64 n] [] (b4l n):=a1R C (a2h C) rfl (by (conv=>whnf);rfl)
theorem b9c (C:Laid P) (s:List UInt8):l9 P G A1 [.str s] [] (b4E s):=a1R C (a5c C) rfl (by (conv=>whnf);rfl)
theorem a3W.all {H:List (List PV)} (h:a3W H):(∀ r ∈ H,a2t r)∧H.length≤1000000:=by
 obtain ⟨more,rfl,h1,h2⟩:=h
 exact ⟨h2,by simp [W5];omega⟩
end Go.Ab.Td
