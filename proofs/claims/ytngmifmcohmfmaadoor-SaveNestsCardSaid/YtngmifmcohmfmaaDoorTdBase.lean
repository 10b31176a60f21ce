/- What all contracts here have in common. Under: nothing. -/
import Derived.Test.YtngmifmcohmfmaaDoorTdTb
import Derived.Test.YtngmifmcohmfmaaDoorSp0
import Derived.Test.YtngmifmcohmfmaaDoorSp3
import Derived.KernelRfl
namespace Go.Ab.Td
open Go Go.Ab

def wordsV : List PV := [.str [97], .str [98], .str [97, 100, 100], .str [120], .str [102, 111, 111], .str [], .str [112, 111, 112], .str [70, 111, 110, 116]]
def G : Gl := ⟨fun i => match i with | 0 => some wordsV | _ => none, fun _ => none⟩
def noX : Nat → Option RunI := fun _ => none
def noT : Nat → Option RFn := fun _ => none

theorem ok_fn {P : Program} (C : Laid P) {g : Nat} {c : RFn} {ps : List PV} {r : PV} (hk : chkFn P g c = true) (hl : ps.length = c.nparams) (h : fnV G (OkC P G) noX noT noT 0 c ps r) : OkC P G g ps [] r :=
  ok_of_fnV C.mixed hk (fun _ _ h => by cases h) (fun _ _ h => by cases h) (fun _ _ h => by cases h) hl h
end Go.Ab.Td
