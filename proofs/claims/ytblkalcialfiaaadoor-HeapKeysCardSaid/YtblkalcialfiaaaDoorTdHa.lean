/- HeapAlike: the law. Under: nothing. -/
import Derived.Test.YtblkalcialfiaaaDoorTdFo
import Derived.Test.YtblkalcialfiaaaDoorTdEr
import Derived.Test.YtblkalcialfiaaaDoorTdAk
import Derived.Test.YtblkalcialfiaaaDoorTdW11
import Derived.Test.YtblkalcialfiaaaDoorAbGl
namespace Go.Ab.Td
open Go Go.Ab
variable {P : Program}
set_option linter.unusedSimpArgs false
attribute [local irreducible] compat
theorem kit_heapT (C : Laid P) (cells ops dicts : List (List PV)) (hc : ∀ r ∈ cells, WordR r) : ∃ h, HeapT h ∧ OkC P G n_ref11_Draft_Heap [.agg [.sl 5 cells, .sl 5 ops, .sl 1 dicts]] [] (.sl 7 (List.map encC h)) := by
  obtain ⟨H, h1, h2⟩ := kit_heap C cells ops dicts hc
  obtain ⟨t, e, _, ht⟩ := heapT h1
  exact ⟨t, ht, okc_res h2 (le_sl e)⟩
end Go.Ab.Td
