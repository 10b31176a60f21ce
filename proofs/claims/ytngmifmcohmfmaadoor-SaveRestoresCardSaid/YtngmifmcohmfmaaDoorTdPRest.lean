/- For every draft, list of steps, number and word, SaveRestores of the package chaselaw19 returns true: restore of any object, and Cells, agree with the definitions.
Conditions: none beyond the given card's (the package's variable Words holds what the program's text lays). -/
import Derived.Test.YtngmifmcohmfmaaDoorG26
import Derived.Test.YtngmifmcohmfmaaDoorG15
import Derived.Test.YtngmifmcohmfmaaDoorG05
import Derived.Test.YtngmifmcohmfmaaDoorCards
import Derived.Test.YtngmifmcohmfmaaDoorTie
import Derived.Test.YtngmifmcohmfmaaDoorChecked
import Derived.OpenShut
import Derived.LaidLaws
import Derived.LaidHandle
import Derived.Lib.LaidIn
import Derived.SevenTiedAt
set_option linter.unusedVariables false
namespace Go.Proofs.YtngmifmcohmfmaaDoor.saveRestores
open Go.ChangeShapes Go.WideShapes Go.ChangeAt Go.RowKit Go.Ab Go.Ab.Td
theorem own:ownKnob Tryd.prog.godebug=none:=by kernel_rfl
def tys:List (Bool × List Ty):=[(true,b8S),(false,[.sl (.int .u8::a3p)]),(false,[.int .i64]),(true,a3p)]
theorem law (ps:List PV) (h:a4r tys ps):j6 Tryd.prog G 3 ps [] (.bool true):=by
 unfold tys at h
 cases h with
 | cons h1 h=>
 cases h with
 | cons h2 h=>
 cases h with
 | cons h3 h=>
 cases h with
 | cons h4 h=>
   cases h
   obtain ⟨cells,ops,d9,rfl,a1,a2,a3⟩:=b9N h1
   obtain ⟨l,rfl,b1⟩:=c1y h2
   obtain ⟨n,rfl,b2,b3⟩:=c5f h3
   obtain ⟨w,rfl⟩:=c5g h4
   exact a5S laid cells ops d9 a1 a2 a3 l b1 n b3 w
theorem c7m (W:World) (h:laidMetH Tryd.prog Rows.saveRestoresRow.laid W):Y8 Tryd.prog G W (b0R W):=by
 refine ⟨fun i cs hi=>?_,fun _ _ h=>by cases h⟩
 have h':laidMet Tryd.prog [("chase/chaseref11.Words",.agg (([[97],[98],[97,100,100],[120],[102,111,111],[],[112,111,112],[70,111,110,116]]:List (List UInt8)).map fun s=>.lit (.string s)))] W:=h
 have hw:=b9M (g:=0) (t:=155) (e:=9) (by kernel_rfl) (by kernel_rfl) (by kernel_rfl) (by kernel_rfl) (by kernel_rfl) (by kernel_rfl) h'
 match i,hi with
 | 0,hi=>cases hi;exact hw
noncomputable def a9T (os:Os):World:=
 let w0:=World.holding Tryd.prog os ⟨#[],#[],[]⟩
 {w0 with heap:=w0.heap.modify 0 fun
  | .cells _ t frozen=>.cells #[.string ⟨#[97]⟩,.string ⟨#[98]⟩,.string ⟨#[97,100,100]⟩,.string ⟨#[120]⟩,.string ⟨#[102,111,111]⟩,.string ⟨#[]⟩,.string ⟨#[112,111,112]⟩,.string ⟨#[70,111,110,116]⟩] t frozen
  | o=>o}
def c4V:Array Value:=#[.agg #[.slice none 0 0,.slice none 0 0,.slice none 0 0],.slice none 0 0,.int .i64 0,.agg #[.int .u8 0,.int .u8 0,.int .u8 0,.int .i32 0,.string ⟨#[]⟩]]
theorem b5e (os:Os):Go.LaidIn Tryd.prog ((a9T os).forCall (fun _ _=>0) ⟨#[],c4V,[]⟩).memory Rows.saveRestoresRow.laid [0]:=
 Go.LaidIn.of_run [0] 10 (by kernel_rfl) (by kernel_rfl) (by kernel_rfl) (by kernel_rfl)
theorem b3t (os:Os):laidMetH Tryd.prog Rows.saveRestoresRow.laid ((a9T os).forCall (fun _ _=>0) ⟨#[],c4V,[]⟩).memory:=
 laidMetH_of_parts (Go.LaidIn.met (b5e os)) (by kernel_rfl)
set_option maxRecDepth 100000 in
theorem lifted (os:Os) (started:os.Started) (H:Type) (enc:TypeId × Value→H):
 ReturnsInHanded {} Tryd.checked os 3 .any (fun w args=>(Rows.saveRestoresSpec.pre enc Tryd.prog Tryd.f3 Rows.saveRestoresRow.domain false w args∧laidMetH Tryd.prog Rows.saveRestoresRow.laid w)∧sizedMet enc Tryd.prog Tryd.f3 (OpenSpec.ofChange Rows.saveRestoresSpec) false w args)
  (Rows.saveRestoresSpec.post enc Tryd.prog Tryd.f3 false true false false):=by
 refine returnsInHanded_of_change_and (C:=Tryd.checked) (X:=fun w _=>laidMetH Tryd.prog Rows.saveRestoresRow.laid w) (fun _ _ _ hh h=>h.of_heap hh) own started (by kernel_rfl) Tryd.func3
  (ChangeSpec.witness_at (enc:=enc) (C:=Tryd.checked) (os:=os) (X:=fun w _=>laidMetH Tryd.prog Rows.saveRestoresRow.laid w) false (a9T os) c4V 8 rfl (by kernel_rfl) (by kernel_rfl) (by kernel_rfl) (by kernel_rfl) (by kernel_rfl) (b3t os)) ?_
 intro W base args ds gs before hval hW _ _ hX _
 exact b9Y (P:=Tryd.prog) (tb:=4) (tys:=tys) (G:=G) (by kernel_rfl) (by kernel_rfl) (by kernel_rfl) rfl rfl Tryd.underlying4
  (fun ds hds=>by match ds,hds with | [d0,d1,d2,d3],_=>rfl) hval hW (c7m W hX) law
theorem over:Rows.saveRestoresRow.holds Tryd.pinned (OpenSpec.ofChange Rows.saveRestoresSpec):=
 OpenClaim.holds_of_wide 3 Tryd.f3 rfl rfl rfl rfl rfl rfl rfl ⟨rfl,rfl,rfl,rfl,rfl⟩ rfl rfl rfl rfl rfl (by kernel_rfl) Tryd.func3 (by kernel_rfl)
  (of_decide_eq_true (by kernel_rfl)) (by unfold Func.isWrapper;first | (rw [if_pos (by decide+kernel)];kernel_rfl) | (rw [if_neg (by decide+kernel)];exact ⟨rfl,rfl⟩))
  (fun os started H enc _=>lifted os started H enc)
theorem card (h:Rows.saveRestoresRow.holds Tryd.pinned (OpenSpec.ofChange Rows.saveRestoresSpec)):Rows.SaveRestoresCardSaid:=
 Claim7.holds_tied_plain_at .later [] [.data] true (true, "89cad0a99b24306b17739309c76a094d448346d7c8813182288f7d14a9890ada") false
  h (fun _ h=>by cases h) (by kernel_rfl) (fun _ h=>by cases h) saveRestores_row_tie rfl ⟨rfl,rfl⟩ (by kernel_rfl) rfl
  (fun f fn hf hfn=>by
   obtain rfl:f=3:=Option.some.inj ((show Tryd.prog.funcNamed "chase/chaselaw19.SaveRestores"=some 3 by kernel_rfl).symm.trans hf) |>.symm
   obtain rfl:fn=Tryd.f3:=(Option.some.inj (Tryd.func3.symm.trans hfn)).symm
   exact ⟨by kernel_rfl,fun j t ht=>by
    rw [Tryd.params3] at ht
    match j,ht with
    | 0,ht=>cases ht;exact (show Tryd.prog.wantsStandIn _=false by kernel_rfl)
    | 1,ht=>cases ht;exact (show Tryd.prog.wantsStandIn _=false by kernel_rfl)
    | 2,ht=>cases ht;exact (show Tryd.prog.wantsStandIn _=false by kernel_rfl)
    | 3,ht=>cases ht;exact (show Tryd.prog.wantsStandIn _=false by kernel_rfl)⟩)
  (by kernel_rfl)
theorem proved:Rows.SaveRestoresCardSaid:=card over
end Go.Proofs.YtngmifmcohmfmaaDoor.saveRestores
