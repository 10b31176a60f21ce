/- For every draft and two lists of steps, SaveBack of the package chaselaw19 returns true: after a save, any steps, and restore, the heap, the graphics state and the saved ones are those of the save, which cannot be used again.
Conditions: none beyond the given card's (the package's variable Words holds what the program's text lays). -/
import Derived.Test.YtngmifmcohmfmaaDoorG50
import Derived.Test.YtngmifmcohmfmaaDoorG29
import Derived.Test.YtngmifmcohmfmaaDoorG05
import Derived.Test.YtngmifmcohmfmaaDoorG51
import Derived.Test.YtngmifmcohmfmaaDoorCards
import Derived.Test.YtngmifmcohmfmaaDoorTie
import Derived.Test.YtngmifmcohmfmaaDoorChecked
import Derived.OpenShut
import Derived.LaidLaws
import Derived.LaidHandle
import Derived.Lib.LaidIn
import Derived.SevenTiedAt
set_option linter.unusedVariables false
namespace Go.Proofs.YtngmifmcohmfmaaDoor.saveBack
open Go.ChangeShapes Go.WideShapes Go.ChangeAt Go.RowKit Go.Ab Go.Ab.Td
theorem own:ownKnob Tryd.prog.godebug=none:=by kernel_rfl
def tys:List (Bool × List Ty):=[(true,c0q),(false,[.sl (.int .u8::a5b)]),(false,[.sl (.int .u8::a5b)])]
theorem law (ps:List PV) (h:a5c tys ps):j4 Tryd.prog G 11 ps [] (.bool true):=by
 unfold tys at h
 cases h with
 | cons h1 h=>
 cases h with
 | cons h2 h=>
 cases h with
 | cons h3 h=>
   cases h
   obtain ⟨cells,ops,e6,rfl,a1,a2,a3⟩:=c1t h1
   obtain ⟨l,rfl,b1⟩:=b7D h2
   obtain ⟨l2,rfl,b2⟩:=b7D h3
   exact b0j laid cells ops e6 a1 a2 a3 l l2 b1 b2
theorem c8X (W:World) (h:laidMetH Tryd.prog Rows.saveBackRow.laid W):a0i Tryd.prog G W (b1Y W):=by
 refine ⟨fun i cs hi=>?_,fun _ _ h=>by cases h⟩
 have h':laidMet Tryd.prog [("chase/chaseref11.Words",.agg (([[97],[98],[97,100,100],[120],[102,111,111],[],[112,111,112],[70,111,110,116]]:List (List UInt8)).map fun s=>.lit (.string s)))] W:=h
 have hw:=c1s (g:=0) (t:=155) (e:=9) (by kernel_rfl) (by kernel_rfl) (by kernel_rfl) (by kernel_rfl) (by kernel_rfl) (by kernel_rfl) h'
 match i,hi with
 | 0,hi=>cases hi;exact hw
noncomputable def b1a (os:Os):World:=
 let w0:=World.holding Tryd.prog os ⟨#[],#[],[]⟩
 {w0 with heap:=w0.heap.modify 0 fun
  | .cells _ t frozen=>.cells #[.string ⟨#[97]⟩,.string ⟨#[98]⟩,.string ⟨#[97,100,100]⟩,.string ⟨#[120]⟩,.string ⟨#[102,111,111]⟩,.string ⟨#[]⟩,.string ⟨#[112,111,112]⟩,.string ⟨#[70,111,110,116]⟩] t frozen
  | o=>o}
def c6I:Array Value:=#[.agg #[.slice none 0 0,.slice none 0 0,.slice none 0 0],.slice none 0 0,.slice none 0 0]
theorem b6B (os:Os):Go.LaidIn Tryd.prog ((b1a os).forCall (fun _ _=>0) ⟨#[],c6I,[]⟩).memory Rows.saveBackRow.laid [0]:=
 Go.LaidIn.of_run [0] 10 (by kernel_rfl) (by kernel_rfl) (by kernel_rfl) (by kernel_rfl)
theorem b4F (os:Os):laidMetH Tryd.prog Rows.saveBackRow.laid ((b1a os).forCall (fun _ _=>0) ⟨#[],c6I,[]⟩).memory:=
 laidMetH_of_parts (Go.LaidIn.met (b6B os)) (by kernel_rfl)
set_option maxRecDepth 100000 in
theorem lifted (os:Os) (started:os.Started) (H:Type) (enc:TypeId × Value→H):
 ReturnsInHanded {} Tryd.checked os 11 .any (fun w args=>(Rows.saveBackSpec.pre enc Tryd.prog Tryd.f11 Rows.saveBackRow.domain false w args∧laidMetH Tryd.prog Rows.saveBackRow.laid w)∧sizedMet enc Tryd.prog Tryd.f11 (OpenSpec.ofChange Rows.saveBackSpec) false w args)
  (Rows.saveBackSpec.post enc Tryd.prog Tryd.f11 false true false false):=by
 refine returnsInHanded_of_change_and (C:=Tryd.checked) (X:=fun w _=>laidMetH Tryd.prog Rows.saveBackRow.laid w) (fun _ _ _ hh h=>h.of_heap hh) own started (by kernel_rfl) Tryd.func11
  (ChangeSpec.witness_at (enc:=enc) (C:=Tryd.checked) (os:=os) (X:=fun w _=>laidMetH Tryd.prog Rows.saveBackRow.laid w) false (b1a os) c6I 8 rfl (by kernel_rfl) (by kernel_rfl) (by kernel_rfl) (by kernel_rfl) (by kernel_rfl) (b4F os)) ?_
 intro W base args ds gs before hval hW _ _ hX _
 exact c1E (P:=Tryd.prog) (tb:=4) (tys:=tys) (G:=G) (by kernel_rfl) (by kernel_rfl) (by kernel_rfl) rfl rfl Tryd.underlying4
  (fun ds hds=>by match ds,hds with | [d0,d1,d2],_=>rfl) hval hW (c8X W hX) law
theorem over:Rows.saveBackRow.holds Tryd.pinned (OpenSpec.ofChange Rows.saveBackSpec):=
 OpenClaim.holds_of_wide 11 Tryd.f11 rfl rfl rfl rfl rfl rfl rfl ⟨rfl,rfl,rfl,rfl,rfl⟩ rfl rfl rfl rfl rfl (by kernel_rfl) Tryd.func11 (by kernel_rfl)
  (of_decide_eq_true (by kernel_rfl)) (by unfold Func.isWrapper;first | (rw [if_pos (by decide+kernel)];kernel_rfl) | (rw [if_neg (by decide+kernel)];exact ⟨rfl,rfl⟩))
  (fun os started H enc _=>lifted os started H enc)
theorem card (h:Rows.saveBackRow.holds Tryd.pinned (OpenSpec.ofChange Rows.saveBackSpec)):Rows.SaveBackCardSaid:=
 Claim7.holds_tied_plain_at .later [] [.data] true (true, "89cad0a99b24306b17739309c76a094d448346d7c8813182288f7d14a9890ada") false
  h (fun _ h=>by cases h) (by kernel_rfl) (fun _ h=>by cases h) saveBack_row_tie rfl ⟨rfl,rfl⟩ (by kernel_rfl) rfl
  (fun f fn hf hfn=>by
   obtain rfl:f=11:=Option.some.inj ((show Tryd.prog.funcNamed "chase/chaselaw19.SaveBack"=some 11 by kernel_rfl).symm.trans hf) |>.symm
   obtain rfl:fn=Tryd.f11:=(Option.some.inj (Tryd.func11.symm.trans hfn)).symm
   exact ⟨by kernel_rfl,fun j t ht=>by
    rw [Tryd.params11] at ht
    match j,ht with
    | 0,ht=>cases ht;exact (show Tryd.prog.wantsStandIn _=false by kernel_rfl)
    | 1,ht=>cases ht;exact (show Tryd.prog.wantsStandIn _=false by kernel_rfl)
    | 2,ht=>cases ht;exact (show Tryd.prog.wantsStandIn _=false by kernel_rfl)⟩)
  (by kernel_rfl)
theorem proved:Rows.SaveBackCardSaid:=card over
end Go.Proofs.YtngmifmcohmfmaaDoor.saveBack
