/- For every draft, three words and two octets, ResourceKeeps of the package chaselaw18 returns true: what is defined is found in its category only, until it is undefined.
Conditions: none beyond the given card's (the package's variable Words holds what the program's text lays). -/
import Derived.Test.YtngmifmcohmfmaaDoorG49
import Derived.Test.YtngmifmcohmfmaaDoorG36
import Derived.Test.YtngmifmcohmfmaaDoorG05
import Derived.Test.YtngmifmcohmfmaaDoorCards
import Derived.Test.YtngmifmcohmfmaaDoorTie
import Derived.Test.YtngmifmcohmfmaaDoorChecked
import Derived.OpenShut
import Derived.LaidLaws
import Derived.LaidHandle
import Derived.Lib.LaidIn
import Derived.SevenTiedAt
set_option linter.unusedVariables false
namespace Go.Proofs.YtngmifmcohmfmaaDoor.resourceKeeps
open Go.ChangeShapes Go.WideShapes Go.ChangeAt Go.RowKit Go.Ab Go.Ab.Td
theorem own:ownKnob Tryd.prog.godebug=none:=by kernel_rfl
def tys:List (Bool × List Ty):=[(true,b6k),(true,b4c a7G 3),(false,[.int .u8]),(false,[.int .u8])]
theorem law (ps:List PV) (h:a3U tys ps):l9 Tryd.prog G 14 ps [] (.bool true):=by
 unfold tys at h
 cases h with
 | cons h1 h=>
 cases h with
 | cons h2 h=>
 cases h with
 | cons h3 h=>
 cases h with
 | cons h4 h=>
   cases h
   obtain ⟨cells,ops,k8,rfl,a1,a2,a3⟩:=b7j h1
   obtain ⟨w0,w1,w2,rfl⟩:=c3l h2
   obtain ⟨c0,rfl,b1,_⟩:=c2x h3
   obtain ⟨c1,rfl,b2,_⟩:=c2x h4
   exact a5h laid cells ops k8 a1 (fun r hr=>(a2 r hr).r) a3 w0 w1 w2 c0 c1 b1 b2
theorem c4z (W:World) (h:laidMetH Tryd.prog Rows.resourceKeepsRow.laid W):Z6 Tryd.prog G W (a9K W):=by
 refine ⟨fun i cs hi=>?_,fun _ _ h=>by cases h⟩
 have h':laidMet Tryd.prog [("chase/chaseref11.Words",.agg (([[97],[98],[97,100,100],[120],[102,111,111],[],[112,111,112],[70,111,110,116]]:List (List UInt8)).map fun s=>.lit (.string s)))] W:=h
 have hw:=b7i (g:=0) (t:=155) (e:=9) (by kernel_rfl) (by kernel_rfl) (by kernel_rfl) (by kernel_rfl) (by kernel_rfl) (by kernel_rfl) h'
 match i,hi with
 | 0,hi=>cases hi;exact hw
noncomputable def a8U (os:Os):World:=
 let w0:=World.holding Tryd.prog os ⟨#[],#[],[]⟩
 {w0 with heap:=w0.heap.modify 0 fun
  | .cells _ t frozen=>.cells #[.string ⟨#[97]⟩,.string ⟨#[98]⟩,.string ⟨#[97,100,100]⟩,.string ⟨#[120]⟩,.string ⟨#[102,111,111]⟩,.string ⟨#[]⟩,.string ⟨#[112,111,112]⟩,.string ⟨#[70,111,110,116]⟩] t frozen
  | o=>o}
def c2X:Array Value:=#[.agg #[.slice none 0 0,.slice none 0 0,.slice none 0 0],.agg #[.int .u8 0,.int .u8 0,.int .u8 0,.int .i32 0,.string ⟨#[]⟩,.int .u8 0,.int .u8 0,.int .u8 0,.int .i32 0,.string ⟨#[]⟩,.int .u8 0,.int .u8 0,.int .u8 0,.int .i32 0,.string ⟨#[]⟩],.int .u8 0,.int .u8 0]
theorem b3t (os:Os):Go.LaidIn Tryd.prog ((a8U os).forCall (fun _ _=>0) ⟨#[],c2X,[]⟩).memory Rows.resourceKeepsRow.laid [0]:=
 Go.LaidIn.of_run [0] 10 (by kernel_rfl) (by kernel_rfl) (by kernel_rfl) (by kernel_rfl)
theorem b1O (os:Os):laidMetH Tryd.prog Rows.resourceKeepsRow.laid ((a8U os).forCall (fun _ _=>0) ⟨#[],c2X,[]⟩).memory:=
 laidMetH_of_parts (Go.LaidIn.met (b3t os)) (by kernel_rfl)
set_option maxRecDepth 100000 in
theorem lifted (os:Os) (started:os.Started) (H:Type) (enc:TypeId × Value→H):
 ReturnsInHanded {} Tryd.checked os 14 .any (fun w args=>(Rows.resourceKeepsSpec.pre enc Tryd.prog Tryd.f14 Rows.resourceKeepsRow.domain false w args∧laidMetH Tryd.prog Rows.resourceKeepsRow.laid w)∧sizedMet enc Tryd.prog Tryd.f14 (OpenSpec.ofChange Rows.resourceKeepsSpec) false w args)
  (Rows.resourceKeepsSpec.post enc Tryd.prog Tryd.f14 false true false false):=by
 refine returnsInHanded_of_change_and (C:=Tryd.checked) (X:=fun w _=>laidMetH Tryd.prog Rows.resourceKeepsRow.laid w) (fun _ _ _ hh h=>h.of_heap hh) own started (by kernel_rfl) Tryd.func14
  (ChangeSpec.witness_at (enc:=enc) (C:=Tryd.checked) (os:=os) (X:=fun w _=>laidMetH Tryd.prog Rows.resourceKeepsRow.laid w) false (a8U os) c2X 8 rfl (by kernel_rfl) (by kernel_rfl) (by kernel_rfl) (by kernel_rfl) (by kernel_rfl) (b1O os)) ?_
 intro W base args ds gs before hval hW _ _ hX _
 exact b7v (P:=Tryd.prog) (tb:=4) (tys:=tys) (G:=G) (by kernel_rfl) (by kernel_rfl) (by kernel_rfl) rfl rfl Tryd.underlying4
  (fun ds hds=>by match ds,hds with | [d0,d1,d2,d3],_=>rfl) hval hW (c4z W hX) law
theorem over:Rows.resourceKeepsRow.holds Tryd.pinned (OpenSpec.ofChange Rows.resourceKeepsSpec):=
 OpenClaim.holds_of_wide 14 Tryd.f14 rfl rfl rfl rfl rfl rfl rfl ⟨rfl,rfl,rfl,rfl,rfl⟩ rfl rfl rfl rfl rfl (by kernel_rfl) Tryd.func14 (by kernel_rfl)
  (of_decide_eq_true (by kernel_rfl)) (by unfold Func.isWrapper;first | (rw [if_pos (by decide+kernel)];kernel_rfl) | (rw [if_neg (by decide+kernel)];exact ⟨rfl,rfl⟩))
  (fun os started H enc _=>lifted os started H enc)
theorem card (h:Rows.resourceKeepsRow.holds Tryd.pinned (OpenSpec.ofChange Rows.resourceKeepsSpec)):Rows.ResourceKeepsCardSaid:=
 Claim7.holds_tied_plain_at .later [] [.data] true (true, "89cad0a99b24306b17739309c76a094d448346d7c8813182288f7d14a9890ada") false
  h (fun _ h=>by cases h) (by kernel_rfl) (fun _ h=>by cases h) resourceKeeps_row_tie rfl ⟨rfl,rfl⟩ (by kernel_rfl) rfl
  (fun f fn hf hfn=>by
   obtain rfl:f=14:=Option.some.inj ((show Tryd.prog.funcNamed "chase/chaselaw18.ResourceKeeps"=some 14 by kernel_rfl).symm.trans hf) |>.symm
   obtain rfl:fn=Tryd.f14:=(Option.some.inj (Tryd.func14.symm.trans hfn)).symm
   exact ⟨by kernel_rfl,fun j t ht=>by
    rw [Tryd.params14] at ht
    match j,ht with
    | 0,ht=>cases ht;exact (show Tryd.prog.wantsStandIn _=false by kernel_rfl)
    | 1,ht=>cases ht;exact (show Tryd.prog.wantsStandIn _=false by kernel_rfl)
    | 2,ht=>cases ht;exact (show Tryd.prog.wantsStandIn _=false by kernel_rfl)
    | 3,ht=>cases ht;exact (show Tryd.prog.wantsStandIn _=false by kernel_rfl)⟩)
  (by kernel_rfl)
theorem proved:Rows.ResourceKeepsCardSaid:=card over
end Go.Proofs.YtngmifmcohmfmaaDoor.resourceKeeps
