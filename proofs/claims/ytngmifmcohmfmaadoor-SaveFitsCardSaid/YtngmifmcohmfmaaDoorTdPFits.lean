/- For every draft, list of steps and octet, SaveFits of the package chaselaw19 returns true: after restore all operands and dictionaries fit the heap.
Conditions: none beyond the given card's (the package's variable Words holds what the program's text lays). -/
import Derived.Test.YtngmifmcohmfmaaDoorG49
import Derived.Test.YtngmifmcohmfmaaDoorG28
import Derived.Test.YtngmifmcohmfmaaDoorG05
import Derived.Test.YtngmifmcohmfmaaDoorG50
import Derived.Test.YtngmifmcohmfmaaDoorCards
import Derived.Test.YtngmifmcohmfmaaDoorTie
import Derived.Test.YtngmifmcohmfmaaDoorChecked
import Derived.OpenShut
import Derived.LaidLaws
import Derived.LaidHandle
import Derived.Lib.LaidIn
import Derived.SevenTiedAt
set_option linter.unusedVariables false
namespace Go.Proofs.YtngmifmcohmfmaaDoor.saveFits
open Go.ChangeShapes Go.WideShapes Go.ChangeAt Go.RowKit Go.Ab Go.Ab.Td
theorem own:ownKnob Tryd.prog.godebug=none:=by kernel_rfl
def tys:List (Bool × List Ty):=[(true,b9C),(false,[.sl (.int .u8::a6o)]),(false,[.int .u8])]
theorem law (ps:List PV) (h:a4R tys ps):j5 Tryd.prog G 12 ps [] (.bool true):=by
 unfold tys at h
 cases h with
 | cons h1 h=>
 cases h with
 | cons h2 h=>
 cases h with
 | cons h3 h=>
   cases h
   obtain ⟨cells,ops,e8,rfl,a1,a2,a3⟩:=c0C h1
   obtain ⟨l,rfl,b1⟩:=c2F h2
   obtain ⟨n,rfl,b2,b3⟩:=c8K h3
   exact a9S laid cells ops e8 a1 a2 a3 l b1 n ⟨b2,b3⟩
theorem c8J (W:World) (h:laidMetH Tryd.prog Rows.saveFitsRow.laid W):a0f Tryd.prog G W (b1I W):=by
 refine ⟨fun i cs hi=>?_,fun _ _ h=>by cases h⟩
 have h':laidMet Tryd.prog [("chase/chaseref11.Words",.agg (([[97],[98],[97,100,100],[120],[102,111,111],[],[112,111,112],[70,111,110,116]]:List (List UInt8)).map fun s=>.lit (.string s)))] W:=h
 have hw:=c0B (g:=0) (t:=155) (e:=9) (by kernel_rfl) (by kernel_rfl) (by kernel_rfl) (by kernel_rfl) (by kernel_rfl) (by kernel_rfl) h'
 match i,hi with
 | 0,hi=>cases hi;exact hw
noncomputable def b0I (os:Os):World:=
 let w0:=World.holding Tryd.prog os ⟨#[],#[],[]⟩
 {w0 with heap:=w0.heap.modify 0 fun
  | .cells _ t frozen=>.cells #[.string ⟨#[97]⟩,.string ⟨#[98]⟩,.string ⟨#[97,100,100]⟩,.string ⟨#[120]⟩,.string ⟨#[102,111,111]⟩,.string ⟨#[]⟩,.string ⟨#[112,111,112]⟩,.string ⟨#[70,111,110,116]⟩] t frozen
  | o=>o}
def c6n:Array Value:=#[.agg #[.slice none 0 0,.slice none 0 0,.slice none 0 0],.slice none 0 0,.int .u8 0]
theorem b6n (os:Os):Go.LaidIn Tryd.prog ((b0I os).forCall (fun _ _=>0) ⟨#[],c6n,[]⟩).memory Rows.saveFitsRow.laid [0]:=
 Go.LaidIn.of_run [0] 10 (by kernel_rfl) (by kernel_rfl) (by kernel_rfl) (by kernel_rfl)
theorem b4u (os:Os):laidMetH Tryd.prog Rows.saveFitsRow.laid ((b0I os).forCall (fun _ _=>0) ⟨#[],c6n,[]⟩).memory:=
 laidMetH_of_parts (Go.LaidIn.met (b6n os)) (by kernel_rfl)
set_option maxRecDepth 100000 in
theorem lifted (os:Os) (started:os.Started) (H:Type) (enc:TypeId × Value→H):
 ReturnsInHanded {} Tryd.checked os 12 .any (fun w args=>(Rows.saveFitsSpec.pre enc Tryd.prog Tryd.f12 Rows.saveFitsRow.domain false w args∧laidMetH Tryd.prog Rows.saveFitsRow.laid w)∧sizedMet enc Tryd.prog Tryd.f12 (OpenSpec.ofChange Rows.saveFitsSpec) false w args)
  (Rows.saveFitsSpec.post enc Tryd.prog Tryd.f12 false true false false):=by
 refine returnsInHanded_of_change_and (C:=Tryd.checked) (X:=fun w _=>laidMetH Tryd.prog Rows.saveFitsRow.laid w) (fun _ _ _ hh h=>h.of_heap hh) own started (by kernel_rfl) Tryd.func12
  (ChangeSpec.witness_at (enc:=enc) (C:=Tryd.checked) (os:=os) (X:=fun w _=>laidMetH Tryd.prog Rows.saveFitsRow.laid w) false (b0I os) c6n 8 rfl (by kernel_rfl) (by kernel_rfl) (by kernel_rfl) (by kernel_rfl) (by kernel_rfl) (b4u os)) ?_
 intro W base args ds gs before hval hW _ _ hX _
 exact c0M (P:=Tryd.prog) (tb:=4) (tys:=tys) (G:=G) (by kernel_rfl) (by kernel_rfl) (by kernel_rfl) rfl rfl Tryd.underlying4
  (fun ds hds=>by match ds,hds with | [d0,d1,d2],_=>rfl) hval hW (c8J W hX) law
theorem over:Rows.saveFitsRow.holds Tryd.pinned (OpenSpec.ofChange Rows.saveFitsSpec):=
 OpenClaim.holds_of_wide 12 Tryd.f12 rfl rfl rfl rfl rfl rfl rfl ⟨rfl,rfl,rfl,rfl,rfl⟩ rfl rfl rfl rfl rfl (by kernel_rfl) Tryd.func12 (by kernel_rfl)
  (of_decide_eq_true (by kernel_rfl)) (by unfold Func.isWrapper;first | (rw [if_pos (by decide+kernel)];kernel_rfl) | (rw [if_neg (by decide+kernel)];exact ⟨rfl,rfl⟩))
  (fun os started H enc _=>lifted os started H enc)
theorem card (h:Rows.saveFitsRow.holds Tryd.pinned (OpenSpec.ofChange Rows.saveFitsSpec)):Rows.SaveFitsCardSaid:=
 Claim7.holds_tied_plain_at .later [] [.data] true (true, "89cad0a99b24306b17739309c76a094d448346d7c8813182288f7d14a9890ada") false
  h (fun _ h=>by cases h) (by kernel_rfl) (fun _ h=>by cases h) saveFits_row_tie rfl ⟨rfl,rfl⟩ (by kernel_rfl) rfl
  (fun f fn hf hfn=>by
   obtain rfl:f=12:=Option.some.inj ((show Tryd.prog.funcNamed "chase/chaselaw19.SaveFits"=some 12 by kernel_rfl).symm.trans hf) |>.symm
   obtain rfl:fn=Tryd.f12:=(Option.some.inj (Tryd.func12.symm.trans hfn)).symm
   exact ⟨by kernel_rfl,fun j t ht=>by
    rw [Tryd.params12] at ht
    match j,ht with
    | 0,ht=>cases ht;exact (show Tryd.prog.wantsStandIn _=false by kernel_rfl)
    | 1,ht=>cases ht;exact (show Tryd.prog.wantsStandIn _=false by kernel_rfl)
    | 2,ht=>cases ht;exact (show Tryd.prog.wantsStandIn _=false by kernel_rfl)⟩)
  (by kernel_rfl)
theorem proved:Rows.SaveFitsCardSaid:=card over
end Go.Proofs.YtngmifmcohmfmaaDoor.saveFits
