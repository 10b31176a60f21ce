/- For every draft, list of words, octet and string, ResourceStays of the package chaselaw18 returns true: only the operands and the dictionary of one category change.
Conditions: none beyond the given card's (the package's variable Words holds what the program's text lays). -/
import Derived.Test.YtomfaadmmchdcaaDoorG50
import Derived.Test.YtomfaadmmchdcaaDoorG41
import Derived.Test.YtomfaadmmchdcaaDoorG05
import Derived.Test.YtomfaadmmchdcaaDoorCards
import Derived.Test.YtomfaadmmchdcaaDoorTie
import Derived.Test.YtomfaadmmchdcaaDoorChecked
import Derived.OpenShut
import Derived.LaidLaws
import Derived.LaidHandle
import Derived.Lib.LaidIn
import Derived.SevenTiedAt
set_option linter.unusedVariables false
namespace Go.Proofs.YtomfaadmmchdcaaDoor.resourceStays
open Go.ChangeShapes Go.WideShapes Go.ChangeAt Go.RowKit Go.Ab Go.Ab.Td
theorem own:ownKnob Tryd.prog.godebug=none:=by kernel_rfl
def tys:List (Bool × List Ty):=[(true,b8p),(false,[.sl a8r]),(false,[.int .u8]),(false,[.str])]
theorem law (ps:List PV) (h:a4x tys ps):l8 Tryd.prog G 4 ps [] (.bool true):=by
 unfold tys at h
 cases h with
 | cons h1 h=>
 cases h with
 | cons h2 h=>
 cases h with
 | cons h3 h=>
 cases h with
 | cons h4 h=>
   cases h
   obtain ⟨cells,ops,j8,rfl,a1,a2,a3⟩:=b9t h1
   obtain ⟨l,rfl⟩:=c5n h2
   obtain ⟨c,rfl,b1,b2⟩:=c6H h3
   obtain ⟨op,rfl,_⟩:=c5m h4
   exact ok_law18_ResourceStays laid cells ops j8 a1 a2 a3 l c ⟨b1,b2⟩ op
theorem c6F (W:World) (h:laidMetH Tryd.prog Rows.resourceStaysRow.laid W):Y9 Tryd.prog G W (b0R W):=by
 refine ⟨fun i cs hi=>?_,fun _ _ h=>by cases h⟩
 have h':laidMet Tryd.prog [("chase/chaseref11.Words",.agg (([[97],[98],[97,100,100],[120],[102,111,111],[],[112,111,112],[70,111,110,116]]:List (List UInt8)).map fun s=>.lit (.string s)))] W:=h
 have hw:=b9s (g:=0) (t:=165) (e:=9) (by kernel_rfl) (by kernel_rfl) (by kernel_rfl) (by kernel_rfl) (by kernel_rfl) (by kernel_rfl) h'
 match i,hi with
 | 0,hi=>cases hi;exact hw
noncomputable def a9X (os:Os):World:=
 let w0:=World.holding Tryd.prog os ⟨#[],#[],[]⟩
 {w0 with heap:=w0.heap.modify 0 fun
  | .cells _ t frozen=>.cells #[.string ⟨#[97]⟩,.string ⟨#[98]⟩,.string ⟨#[97,100,100]⟩,.string ⟨#[120]⟩,.string ⟨#[102,111,111]⟩,.string ⟨#[]⟩,.string ⟨#[112,111,112]⟩,.string ⟨#[70,111,110,116]⟩] t frozen
  | o=>o}
def c4Z:Array Value:=#[.agg #[.slice none 0 0,.slice none 0 0,.slice none 0 0],.slice none 0 0,.int .u8 0,.string ⟨#[]⟩]
theorem b5f (os:Os):Go.LaidIn Tryd.prog ((a9X os).forCall (fun _ _=>0) ⟨#[],c4Z,[]⟩).memory Rows.resourceStaysRow.laid [0]:=
 Go.LaidIn.of_run [0] 10 (by kernel_rfl) (by kernel_rfl) (by kernel_rfl) (by kernel_rfl)
theorem b3s (os:Os):laidMetH Tryd.prog Rows.resourceStaysRow.laid ((a9X os).forCall (fun _ _=>0) ⟨#[],c4Z,[]⟩).memory:=
 laidMetH_of_parts (Go.LaidIn.met (b5f os)) (by kernel_rfl)
set_option maxRecDepth 100000 in
theorem lifted (os:Os) (started:os.Started) (H:Type) (enc:TypeId × Value→H):
 ReturnsInHanded {} Tryd.checked os 4 .any (fun w args=>(Rows.resourceStaysSpec.pre enc Tryd.prog Tryd.f4 Rows.resourceStaysRow.domain false w args∧laidMetH Tryd.prog Rows.resourceStaysRow.laid w)∧sizedMet enc Tryd.prog Tryd.f4 (OpenSpec.ofChange Rows.resourceStaysSpec) false w args)
  (Rows.resourceStaysSpec.post enc Tryd.prog Tryd.f4 false true false false):=by
 refine returnsInHanded_of_change_and (C:=Tryd.checked) (X:=fun w _=>laidMetH Tryd.prog Rows.resourceStaysRow.laid w) (fun _ _ _ hh h=>h.of_heap hh) own started (by kernel_rfl) Tryd.func4
  (ChangeSpec.witness_at (enc:=enc) (C:=Tryd.checked) (os:=os) (X:=fun w _=>laidMetH Tryd.prog Rows.resourceStaysRow.laid w) false (a9X os) c4Z 8 rfl (by kernel_rfl) (by kernel_rfl) (by kernel_rfl) (by kernel_rfl) (by kernel_rfl) (b3s os)) ?_
 intro W base args ds gs before hval hW _ _ hX _
 exact b9B (P:=Tryd.prog) (tb:=4) (tys:=tys) (G:=G) (by kernel_rfl) (by kernel_rfl) (by kernel_rfl) rfl rfl Tryd.underlying4
  (fun ds hds=>by match ds,hds with | [d0,d1,d2,d3],_=>rfl) hval hW (c6F W hX) law
theorem over:Rows.resourceStaysRow.holds Tryd.pinned (OpenSpec.ofChange Rows.resourceStaysSpec):=
 OpenClaim.holds_of_wide 4 Tryd.f4 rfl rfl rfl rfl rfl rfl rfl ⟨rfl,rfl,rfl,rfl,rfl⟩ rfl rfl rfl rfl rfl (by kernel_rfl) Tryd.func4 (by kernel_rfl)
  (of_decide_eq_true (by kernel_rfl)) (by unfold Func.isWrapper;first | (rw [if_pos (by decide+kernel)];kernel_rfl) | (rw [if_neg (by decide+kernel)];exact ⟨rfl,rfl⟩))
  (fun os started H enc _=>lifted os started H enc)
theorem card (h:Rows.resourceStaysRow.holds Tryd.pinned (OpenSpec.ofChange Rows.resourceStaysSpec)):Rows.ResourceStaysCardSaid:=
 Claim7.holds_tied_plain_at .later [] [.data] true (true, "fd2619b89134ba49b9f92f397052bdd329d07d38442ac4688af7780af0eba34e") false
  h (fun _ h=>by cases h) (by kernel_rfl) (fun _ h=>by cases h) resourceStays_row_tie rfl ⟨rfl,rfl⟩ (by kernel_rfl) rfl
  (fun f fn hf hfn=>by
   obtain rfl:f=4:=Option.some.inj ((show Tryd.prog.funcNamed "chase/chaselaw18.ResourceStays"=some 4 by kernel_rfl).symm.trans hf) |>.symm
   obtain rfl:fn=Tryd.f4:=(Option.some.inj (Tryd.func4.symm.trans hfn)).symm
   exact ⟨by kernel_rfl,fun j t ht=>by
    rw [Tryd.params4] at ht
    match j,ht with
    | 0,ht=>cases ht;exact (show Tryd.prog.wantsStandIn _=false by kernel_rfl)
    | 1,ht=>cases ht;exact (show Tryd.prog.wantsStandIn _=false by kernel_rfl)
    | 2,ht=>cases ht;exact (show Tryd.prog.wantsStandIn _=false by kernel_rfl)
    | 3,ht=>cases ht;exact (show Tryd.prog.wantsStandIn _=false by kernel_rfl)⟩)
  (by kernel_rfl)
theorem proved:Rows.ResourceStaysCardSaid:=card over
end Go.Proofs.YtomfaadmmchdcaaDoor.resourceStays
