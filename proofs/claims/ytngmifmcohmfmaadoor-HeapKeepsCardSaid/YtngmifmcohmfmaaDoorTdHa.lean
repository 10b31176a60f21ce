/- HeapAlike: the law. Under: nothing. -/
import Derived.Test.YtngmifmcohmfmaaDoorTdFo
import Derived.Test.YtngmifmcohmfmaaDoorTdEr
import Derived.Test.YtngmifmcohmfmaaDoorTdAk
import Derived.Test.YtngmifmcohmfmaaDoorTdW11
import Derived.Test.YtngmifmcohmfmaaDoorAbGl
namespace Go.Ab.Td
open Go Go.Ab
variable {P : Program}
set_option linter.unusedSimpArgs false
attribute [local irreducible] compat
theorem wd_obj (C : Laid P) {h : List Cl} (t : HeapT h) (w : Wd) : ∃ o : Ob, o.n < 9223372036854775808 ∧ fits h o ∧ OkC P G n_ref11_Word_Obj [.agg w.row, .sl 7 (List.map encC h)] [] (.agg (encO o)) :=
  ⟨objO h w.K w.A w.B w.N, obj_n h _ _ _ _ w.hA w.hN, fits_obj t w.K w.A w.B w.N w.hA w.hB w.hN, ok_ref11_Word_Obj C h t.small w.K w.A w.B w.N w.S w.hA w.hB w.hN⟩
end Go.Ab.Td
