/- A part of the proof: the texts TdPDUndoes. Under: nothing. -/
import Derived.Test.YtomfaadmmchdcaaGreatDoorG42
import Derived.Test.YtomfaadmmchdcaaGreatDoorG39
import Derived.Test.YtomfaadmmchdcaaGreatDoorG25
import Derived.Test.YtomfaadmmchdcaaGreatDoorG24
import Derived.Test.YtomfaadmmchdcaaGreatDoorG05
import Derived.Test.YtomfaadmmchdcaaGreatDoorCards
import Derived.Test.YtomfaadmmchdcaaGreatDoorTie
import Derived.Test.YtomfaadmmchdcaaGreatDoorChecked
import Derived.OpenShut
import Derived.LaidLaws
import Derived.LaidHandle
import Derived.Lib.LaidIn
import Derived.SevenTiedAt
set_option linter.unusedVariables false
namespace Go.Proofs.YtomfaadmmchdcaaGreatDoor.dictUndoes
open Go.ChangeShapes Go.WideShapes Go.ChangeAt Go.RowKit Go.Ab Go.Ab.Td
theorem own:ownKnob Tryz.prog.godebug=none:=by kernel_rfl
def tys:List (Bool × List Ty):=[(true,b4l),(true,b5b a5T 3)]
theorem law (ps:List PV) (h:a3b tys ps):l3 Tryz.prog G 9 ps [] (.bool true):=by
 unfold tys at h
 cases h with
 | cons h1 h=>
 cases h with
 | cons h2 h=>
   cases h
   obtain ⟨cells,ops,d5,rfl,a1,a2,a3⟩:=b3A h1
   obtain ⟨w0,w1,w2,rfl⟩:=hasWd3 h2
   exact ok_law16_DictUndoes laid cells ops d5 a1 a2 a3 w0 w1 w2
theorem c0j (W:World) (h:laidMetH Tryz.prog Rows.dictUndoesRow.laid W):V9 Tryz.prog G W (a9K W):=by
 refine ⟨fun i cs hi=>?_,fun _ _ h=>by cases h⟩
 have h':laidMet Tryz.prog [("chase/chaseref11.Words",.agg (([[97],[98],[97,100,100],[120],[102,111,111],[],[112,111,112],[70,111,110,116]]:List (List UInt8)).map fun s=>.lit (.string s)))] W:=h
 have hw:=b3y (g:=0) (t:=97) (e:=9) (by kernel_rfl) (by kernel_rfl) (by kernel_rfl) (by kernel_rfl) (by kernel_rfl) (by kernel_rfl) h'
 match i,hi with
 | 0,hi=>cases hi;exact hw
noncomputable def a1C (os:Os):World:=
 let w0:=World.holding Tryz.prog os ⟨#[],#[],[]⟩
 {w0 with heap:=w0.heap.modify 0 fun
  | .cells _ t frozen=>.cells #[.string ⟨#[97]⟩,.string ⟨#[98]⟩,.string ⟨#[97,100,100]⟩,.string ⟨#[120]⟩,.string ⟨#[102,111,111]⟩,.string ⟨#[]⟩,.string ⟨#[112,111,112]⟩,.string ⟨#[70,111,110,116]⟩] t frozen
  | o=>o}
def b6p:Array Value:=#[.agg #[.slice none 0 0,.slice none 0 0,.slice none 0 0],.agg #[.int .u8 0,.int .u8 0,.int .u8 0,.int .i32 0,.string ⟨#[]⟩,.int .u8 0,.int .u8 0,.int .u8 0,.int .i32 0,.string ⟨#[]⟩,.int .u8 0,.int .u8 0,.int .u8 0,.int .i32 0,.string ⟨#[]⟩]]
theorem a5I (os:Os):Go.LaidIn Tryz.prog ((a1C os).forCall (fun _ _=>0) ⟨#[],b6p,[]⟩).memory Rows.dictUndoesRow.laid [0]:=
 Go.LaidIn.of_run [0] 10 (by kernel_rfl) (by kernel_rfl) (by kernel_rfl) (by kernel_rfl)
theorem a4y (os:Os):laidMetH Tryz.prog Rows.dictUndoesRow.laid ((a1C os).forCall (fun _ _=>0) ⟨#[],b6p,[]⟩).memory:=
 laidMetH_of_parts (Go.LaidIn.met (a5I os)) (by kernel_rfl)
set_option maxRecDepth 100000 in
theorem lifted (os:Os) (started:os.Started) (H:Type) (enc:TypeId × Value→H):
 ReturnsInHanded {} Tryz.checked os 9 .any (fun w args=>(Rows.dictUndoesSpec.pre enc Tryz.prog Tryz.f9 Rows.dictUndoesRow.domain false w args∧laidMetH Tryz.prog Rows.dictUndoesRow.laid w)∧sizedMet enc Tryz.prog Tryz.f9 (OpenSpec.ofChange Rows.dictUndoesSpec) false w args)
  (Rows.dictUndoesSpec.post enc Tryz.prog Tryz.f9 false true false false):=by
 refine returnsInHanded_of_change_and (C:=Tryz.checked) (X:=fun w _=>laidMetH Tryz.prog Rows.dictUndoesRow.laid w) (fun _ _ _ hh h=>h.of_heap hh) own started (by kernel_rfl) Tryz.func9
  (ChangeSpec.witness_at (enc:=enc) (C:=Tryz.checked) (os:=os) (X:=fun w _=>laidMetH Tryz.prog Rows.dictUndoesRow.laid w) false (a1C os) b6p 8 rfl (by kernel_rfl) (by kernel_rfl) (by kernel_rfl) (by kernel_rfl) (by kernel_rfl) (a4y os)) ?_
 intro W base args ds gs before hval hW _ _ hX _
 exact b3D (P:=Tryz.prog) (tb:=4) (tys:=tys) (G:=G) (by kernel_rfl) (by kernel_rfl) (by kernel_rfl) rfl rfl Tryz.underlying4
  (fun ds hds=>by match ds,hds with | [d0,d1],_=>rfl) hval hW (c0j W hX) law
theorem over:Rows.dictUndoesRow.holds Tryz.pinned (OpenSpec.ofChange Rows.dictUndoesSpec):=
 OpenClaim.holds_of_wide 9 Tryz.f9 rfl rfl rfl rfl rfl rfl rfl ⟨rfl,rfl,rfl,rfl,rfl⟩ rfl rfl rfl rfl rfl (by kernel_rfl) Tryz.func9 (by kernel_rfl)
  (of_decide_eq_true (by kernel_rfl)) (by unfold Func.isWrapper;first | (rw [if_pos (by decide+kernel)];kernel_rfl) | (rw [if_neg (by decide+kernel)];exact ⟨rfl,rfl⟩))
  (fun os started H enc _=>lifted os started H enc)
theorem card (h:Rows.dictUndoesRow.holds Tryz.pinned (OpenSpec.ofChange Rows.dictUndoesSpec)):Rows.DictUndoesCardSaid:=
 Claim7.holds_tied_plain_at .later [] [.data] true (true, "11f158f83da5bb14aba8c1ffee145425eb9a0ea2a8c05a40a85ae5851c39b885") false
  h (fun _ h=>by cases h) (by kernel_rfl) (fun _ h=>by cases h) dictUndoes_row_tie rfl ⟨rfl,rfl⟩ (by kernel_rfl) rfl
  (fun f fn hf hfn=>by
   obtain rfl:f=9:=Option.some.inj ((show Tryz.prog.funcNamed "chase/chaselaw16.DictUndoes"=some 9 by kernel_rfl).symm.trans hf) |>.symm
   obtain rfl:fn=Tryz.f9:=(Option.some.inj (Tryz.func9.symm.trans hfn)).symm
   exact ⟨by kernel_rfl,fun j t ht=>by
    rw [Tryz.params9] at ht
    match j,ht with
    | 0,ht=>cases ht;exact (show Tryz.prog.wantsStandIn _=false by kernel_rfl)
    | 1,ht=>cases ht;exact (show Tryz.prog.wantsStandIn _=false by kernel_rfl)⟩)
  (by kernel_rfl)
theorem proved:Rows.DictUndoesCardSaid:=card over
end Go.Proofs.YtomfaadmmchdcaaGreatDoor.dictUndoes
