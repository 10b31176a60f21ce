/- The layer wakes: a closed run. Under: nothing. -/
import Derived.Test.YtngmifmcohmfmaaDoorTdBase
import Derived.Test.YtngmifmcohmfmaaDoorAbG5
import Derived.KernelRfl
namespace Go.Ab.Td.TdW19
open Go Go.Ab Go.Ab.Td
variable {P : Program}
set_option linter.unusedSimpArgs false
def tabC : TF := (.node (.node (.node (.node (.node (.node .nil (.node (.leaf n_save_keeper_saves c_save_keeper_saves) (.leaf n_save_keeper_find c_save_keeper_find))) (.leaf n_slices_Contains_int c_slices_Contains_int)) (.node (.node (.node (.leaf n_ref11_dict c_ref11_dict) (.leaf n_slices_Clone_Obj c_slices_Clone_Obj)) (.leaf n_object_Check c_object_Check)) (.leaf n_save_Do c_save_Do))) (.node (.node (.leaf n_object_kinds c_object_kinds) (.node (.leaf n_save_Newer c_save_Newer) (.node (.node (.leaf n_ref11_SameCell c_ref11_SameCell) (.leaf n_slices_ContainsFunc_Obj c_slices_ContainsFunc_Obj)) .nil))) (.node (.leaf n_heap_view_cell c_heap_view_cell) (.node (.node (.leaf n_stack_Top c_stack_Top) (.leaf n_save_keeper_save c_save_keeper_save)) (.leaf n_slices_Index_int c_slices_Index_int))))) (.node (.node .nil (.node (.node (.leaf n_heap_viewOf c_heap_viewOf) (.node (.leaf n_ref11_Same c_ref11_Same) (.leaf n_heap_length c_heap_length))) (.node (.leaf n_save_Cells c_save_Cells) (.leaf n_heap_PutBytes c_heap_PutBytes)))) (.node (.node (.node .nil (.node (.node (.leaf n_heap_Fits c_heap_Fits) (.leaf n_object_kind_named c_object_kind_named)) .nil)) (.leaf n_object_kind_longest c_object_kind_longest)) (.node (.leaf n_heap_view_with c_heap_view_with) (.node (.node (.leaf n_stack_Drop c_stack_Drop) (.leaf n_save_keeper_vmstatus c_save_keeper_vmstatus)) (.leaf n_slices_IndexFunc_Obj c_slices_IndexFunc_Obj)))))) (.node (.node (.node (.leaf n_heap_Total c_heap_Total) (.node (.node (.node (.leaf n_ref11_name c_ref11_name) (.leaf n_slices_Equal_Obj c_slices_Equal_Obj)) (.leaf n_heap_cellKind c_heap_cellKind)) (.leaf n_ref11_SameState c_ref11_SameState))) (.node (.node (.leaf n_object_kind_number c_object_kind_number) (.node (.leaf n_law19_saved c_law19_saved) (.leaf n_save_keeper_saves_1 c_save_keeper_saves_1))) (.node (.node (.node (.leaf n_heap_replaced_byte c_heap_replaced_byte) (.leaf n_ref11_Categories c_ref11_Categories)) (.leaf n_ref11_First c_ref11_First)) (.node (.node (.leaf n_save_keeper_restore_1 c_save_keeper_restore_1) (.leaf n_save_keeper_restore c_save_keeper_restore)) .nil)))) (.node (.node (.node (.leaf n_heap_Size c_heap_Size) (.leaf n_law19_first c_law19_first)) (.node (.leaf n_heap_view_room c_heap_view_room) (.leaf n_stack_Push c_stack_Push))) (.node (.node (.node (.leaf n_ref11_SameG c_ref11_SameG) (.leaf n_object_kind_referring c_object_kind_referring)) (.leaf n_law19_with c_law19_with)) (.node (.leaf n_law19_wakes c_law19_wakes) (.node (.node (.leaf n_save_some_Obj c_save_some_Obj) (.leaf n_ref11_sameObjs c_ref11_sameObjs)) .nil))))))
def tabO : TF := .nil
def tabN : TF := (.node (.leaf n_ref11_dict c_ref11_dict) (.node (.leaf n_ref11_First c_ref11_First) (.node (.leaf n_law19_first c_law19_first) (.leaf n_law19_with c_law19_with))))
def tabR : TF := (.leaf n_save_keeper_saves_1 c_save_keeper_saves_1)
def zeroA : List AV := [.pv (.int .i64 (0)), .pv (.bool false), .pv (.int .i64 (0)), .pv (.str []), .pv (.int .i64 (0)), .pv (.int .i64 (0)), .pv (.int .i64 (0))]
def ext (g : Nat) : Option RunI := match Nat.beq g n_slices_Clone_Obj with | true => some (cloneE 7 64) | false => none
theorem allC (C : Laid P) : tabC.all (chkFn P) = true := by simp only [tabC, TF.all, k_law19_wakes C, k_law19_saved C, k_law19_with C, k_save_Do C, k_ref11_SameState C, k_save_Cells C, k_heap_Total C, k_heap_Size C, k_heap_Fits C, k_ref11_Same C, k_ref11_SameCell C, k_heap_PutBytes C, k_ref11_SameG C, k_slices_Clone_Obj C, k_slices_Equal_Obj C, k_ref11_Categories C, k_law19_first C, k_save_Newer C, k_save_keeper_save C, k_save_keeper_restore C, k_save_keeper_vmstatus C, k_ref11_sameObjs C, k_save_keeper_find C, k_object_Check C, k_heap_cellKind C, k_heap_length C, k_ref11_First C, k_ref11_dict C, k_ref11_name C, k_heap_viewOf C, k_heap_view_room C, k_heap_view_cell C, k_heap_replaced_byte C, k_heap_view_with C, k_stack_Push C, k_stack_Top C, k_save_keeper_restore_1 C, k_stack_Drop C, k_save_some_Obj C, k_save_keeper_saves C, k_object_kinds C, k_object_kind_number C, k_object_kind_named C, k_object_kind_referring C, k_slices_Contains_int C, k_slices_ContainsFunc_Obj C, k_save_keeper_saves_1 C, k_object_kind_longest C, k_slices_Index_int C, k_slices_IndexFunc_Obj C, Bool.and_self]
theorem allO (_C : Laid P) : tabO.all (chkFn P) = true := by simp only [tabO, TF.all, Bool.and_self]
theorem allN (C : Laid P) : tabN.all (chkFn P) = true := by simp only [tabN, TF.all, k_ref11_dict C, k_ref11_First C, k_law19_first C, k_law19_with C, Bool.and_self]
theorem itr_save_keeper_saves_1 (C : Laid P) : chkItr P n_save_keeper_saves_1 c_save_keeper_saves_1 = true := by
  unfold chkItr
  rw [k_save_keeper_saves_1 C]
  kernel_rfl
theorem allR (C : Laid P) : tabR.all (chkItr P) = true := by simp only [tabR, TF.all, itr_save_keeper_saves_1 C, Bool.and_self]
theorem clone_eq : c_slices_Clone_Obj = cloneC 7 64 zeroA := rfl
theorem extOk (C : Laid P) : InlOk P G fun g => (ext g).map extH := by
  intro g h hg
  cases hb : Nat.beq g n_slices_Clone_Obj with
  | true =>
    have := Nat.eq_of_beq_eq_true hb
    subst this
    cases hg
    exact clone_ok C.mixed (by rw [← clone_eq]; exact k_slices_Clone_Obj C)
  | false =>
    have : ext g = none := by unfold ext; rw [hb]
    simp only [this] at hg
    cases hg
theorem kn0_ok' : ∀ g ps own r, kn0 g ps = some (own, r) → OkC P G g ps own r := fun _ _ _ _ h => by cases h
theorem run : isR [] (.bool true) ((envE G kn0 ext tabN.fn tabR.fn tabC.fn tabO.fn 10000 20).call n_law19_wakes []) = true := by kernel_rfl
theorem ok (C : Laid P) : OkC P G n_law19_wakes [] [] (.bool true) := ok_of_run C.mixed kn0_ok' (extOk C) (TF.fn_all (allN C)) (TF.fn_all (allR C)) (TF.fn_all (allC C)) (TF.fn_all (allO C)) (isR_eq run)
end Go.Ab.Td.TdW19
