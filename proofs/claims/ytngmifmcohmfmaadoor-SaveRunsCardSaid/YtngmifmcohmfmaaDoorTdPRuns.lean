/- For every draft and list of steps, SaveRuns of the package chaselaw19 returns true: save, restore and vmstatus agree with the definitions in every state that steps lead to.
Conditions: none beyond the given card's (the package's variable Words holds what the program's text lays). -/
import Derived.Test.YtngmifmcohmfmaaDoorG28
import Derived.Test.YtngmifmcohmfmaaDoorG17
import Derived.Test.YtngmifmcohmfmaaDoorG05
import Derived.Test.YtngmifmcohmfmaaDoorG29
import Derived.Test.YtngmifmcohmfmaaDoorCards
import Derived.Test.YtngmifmcohmfmaaDoorTie
import Derived.Test.YtngmifmcohmfmaaDoorChecked
import Derived.OpenShut
import Derived.LaidLaws
import Derived.LaidHandle
import Derived.Lib.LaidIn
import Derived.SevenTiedAt
namespace Go.Proofs.YtngmifmcohmfmaaDoor.saveRuns
open Go.ChangeShapes Go.WideShapes Go.ChangeAt Go.RowKit Go.Ab Go.Ab.Td
theorem own:ownKnob Tryd.prog.godebug=none:=by kernel_rfl
def tys:List (Bool × List Ty):=[(true,b9z),(false,[.sl (.int .u8::a6f)])]
theorem law (ps:List PV) (h:a5r tys ps):j7 Tryd.prog G 13 ps [] (.bool true):=by
 unfold tys at h
 cases h with
 | cons h1 h=>
 cases h with
 | cons h2 h=>
   cases h
   obtain ⟨cells,ops,e9,rfl,a1,a2,a3⟩:=c0P h1
   obtain ⟨l,rfl,b1⟩:=c2B h2
   exact a9l laid cells ops e9 a1 a2 a3 l b1
theorem c7P (W:World) (h:laidMetH Tryd.prog Rows.saveRunsRow.laid W):a0b Tryd.prog G W (b1w W):=by
 refine ⟨fun i cs hi=>?_,fun _ _ h=>by cases h⟩
 have h':laidMet Tryd.prog [("chase/chaseref11.Words",.agg (([[97],[98],[97,100,100],[120],[102,111,111],[],[112,111,112],[70,111,110,116]]:List (List UInt8)).map fun s=>.lit (.string s)))] W:=h
 have hw:=c0h (g:=0) (t:=155) (e:=9) (by kernel_rfl) (by kernel_rfl) (by kernel_rfl) (by kernel_rfl) (by kernel_rfl) (by kernel_rfl) h'
 match i,hi with
 | 0,hi=>cases hi;exact hw
noncomputable def b0I (os:Os):World:=
 let w0:=World.holding Tryd.prog os ⟨#[],#[],[]⟩
 {w0 with heap:=w0.heap.modify 0 fun
  | .cells _ t frozen=>.cells #[.string ⟨#[97]⟩,.string ⟨#[98]⟩,.string ⟨#[97,100,100]⟩,.string ⟨#[120]⟩,.string ⟨#[102,111,111]⟩,.string ⟨#[]⟩,.string ⟨#[112,111,112]⟩,.string ⟨#[70,111,110,116]⟩] t frozen
  | o=>o}
def c6g:Array Value:=#[.agg #[.slice none 0 0,.slice none 0 0,.slice none 0 0],.slice none 0 0]
theorem b5l (os:Os):Go.LaidIn Tryd.prog ((b0I os).forCall (fun _ _=>0) ⟨#[],c6g,[]⟩).memory Rows.saveRunsRow.laid [0]:=
 Go.LaidIn.of_run [0] 10 (by kernel_rfl) (by kernel_rfl) (by kernel_rfl) (by kernel_rfl)
theorem b3M (os:Os):laidMetH Tryd.prog Rows.saveRunsRow.laid ((b0I os).forCall (fun _ _=>0) ⟨#[],c6g,[]⟩).memory:=
 laidMetH_of_parts (Go.LaidIn.met (b5l os)) (by kernel_rfl)
set_option maxRecDepth 100000 in
theorem lifted (os:Os) (started:os.Started) (H:Type) (enc:TypeId × Value→H):
 ReturnsInHanded {} Tryd.checked os 13 .any (fun w args=>(Rows.saveRunsSpec.pre enc Tryd.prog Tryd.f13 Rows.saveRunsRow.domain false w args∧laidMetH Tryd.prog Rows.saveRunsRow.laid w)∧sizedMet enc Tryd.prog Tryd.f13 (OpenSpec.ofChange Rows.saveRunsSpec) false w args)
  (Rows.saveRunsSpec.post enc Tryd.prog Tryd.f13 false true false false):=by
 refine returnsInHanded_of_change_and (C:=Tryd.checked) (X:=fun w _=>laidMetH Tryd.prog Rows.saveRunsRow.laid w) (fun _ _ _ hh h=>h.of_heap hh) own started (by kernel_rfl) Tryd.func13
  (ChangeSpec.witness_at (enc:=enc) (C:=Tryd.checked) (os:=os) (X:=fun w _=>laidMetH Tryd.prog Rows.saveRunsRow.laid w) false (b0I os) c6g 8 rfl (by kernel_rfl) (by kernel_rfl) (by kernel_rfl) (by kernel_rfl) (by kernel_rfl) (b3M os)) ?_
 intro W base args ds gs before hval hW _ _ hX _
 exact c1I (P:=Tryd.prog) (tb:=4) (tys:=tys) (G:=G) (by kernel_rfl) (by kernel_rfl) (by kernel_rfl) rfl rfl Tryd.underlying4
  (fun ds hds=>by match ds,hds with | [d0,d1],_=>rfl) hval hW (c7P W hX) law
theorem over:Rows.saveRunsRow.holds Tryd.pinned (OpenSpec.ofChange Rows.saveRunsSpec):=
 OpenClaim.holds_of_wide 13 Tryd.f13 rfl rfl rfl rfl rfl rfl rfl ⟨rfl,rfl,rfl,rfl,rfl⟩ rfl rfl rfl rfl rfl (by kernel_rfl) Tryd.func13 (by kernel_rfl)
  (of_decide_eq_true (by kernel_rfl)) (by unfold Func.isWrapper;first | (rw [if_pos (by decide+kernel)];kernel_rfl) | (rw [if_neg (by decide+kernel)];exact ⟨rfl,rfl⟩))
  (fun os started H enc _=>lifted os started H enc)
theorem card (h:Rows.saveRunsRow.holds Tryd.pinned (OpenSpec.ofChange Rows.saveRunsSpec)):Rows.SaveRunsCardSaid:=
 Claim7.holds_tied_plain_at .later [] [.data] true (true, "89cad0a99b24306b17739309c76a094d448346d7c8813182288f7d14a9890ada") false
  h (fun _ h=>by cases h) (by kernel_rfl) (fun _ h=>by cases h) saveRuns_row_tie rfl ⟨rfl,rfl⟩ (by kernel_rfl) rfl
  (fun f fn hf hfn=>by
   obtain rfl:f=13:=Option.some.inj ((show Tryd.prog.funcNamed "chase/chaselaw19.SaveRuns"=some 13 by kernel_rfl).symm.trans hf) |>.symm
   obtain rfl:fn=Tryd.f13:=(Option.some.inj (Tryd.func13.symm.trans hfn)).symm
   exact ⟨by kernel_rfl,fun j t ht=>by
    rw [Tryd.params13] at ht
    match j,ht with
    | 0,ht=>cases ht;exact (show Tryd.prog.wantsStandIn _=false by kernel_rfl)
    | 1,ht=>cases ht;exact (show Tryd.prog.wantsStandIn _=false by kernel_rfl)⟩)
  (by kernel_rfl)
theorem proved:Rows.SaveRunsCardSaid:=card over
end Go.Proofs.YtngmifmcohmfmaaDoor.saveRuns
