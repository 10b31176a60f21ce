/- The layer wakes: a closed run. Under: nothing. -/
import Derived.Test.YtngmifmcohmfmaaDoorTdBase
import Derived.Test.YtngmifmcohmfmaaDoorAbG5
import Derived.KernelRfl
namespace Go.Ab.Td.TdW11
open Go Go.Ab Go.Ab.Td
variable {P : Program}
set_option linter.unusedSimpArgs false
def tabC : TF := (.node (.node (.node (.node (.node (.node (.node .nil (.node (.leaf n_heap_Find c_heap_Find) (.leaf n_object_Int_1 c_object_Int_1))) (.leaf n_heap_Check c_heap_Check)) (.node (.leaf n_object_Key c_object_Key) (.leaf n_slices_Contains_int c_slices_Contains_int))) (.node (.node .nil (.node (.leaf n_heap_New c_heap_New) (.leaf n_object_Check c_object_Check))) (.leaf n_object_number_value c_object_number_value))) (.node (.node (.leaf n_object_kinds c_object_kinds) (.leaf n_heap_objects c_heap_objects)) (.node (.node (.leaf n_heap_view_cell c_heap_view_cell) (.node (.node (.leaf n_heap_Equal c_heap_Equal) (.leaf n_heap_objects_1 c_heap_objects_1)) .nil)) (.node (.leaf n_law11_wakes c_law11_wakes) (.node (.node (.leaf n_heap_Bytes c_heap_Bytes) (.leaf n_slices_Index_int c_slices_Index_int)) .nil))))) (.node (.node (.node (.leaf n_law11_str c_law11_str) (.node (.leaf n_slices_Index_Obj c_slices_Index_Obj) (.leaf n_object_made_string c_object_made_string))) (.node (.node (.leaf n_heap_viewOf c_heap_viewOf) (.node (.leaf n_object_Value c_object_Value) (.leaf n_heap_length c_heap_length))) (.leaf n_heap_PutBytes c_heap_PutBytes))) (.node (.node (.node .nil (.node (.node (.leaf n_heap_Fits c_heap_Fits) (.leaf n_object_kind_named c_object_kind_named)) (.leaf n_heap_store_limited c_heap_store_limited))) (.leaf n_object_kind_longest c_object_kind_longest)) (.node (.node (.leaf n_heap_view_with c_heap_view_with) (.node (.leaf n_slices_Equal_bool c_slices_Equal_bool) (.leaf n_object_Compare c_object_Compare))) (.leaf n_heap_Items c_heap_Items))))) (.node (.node (.node (.node (.node (.leaf n_heap_Store c_heap_Store) (.leaf n_heap_Total c_heap_Total)) (.node (.leaf n_object_Name c_object_Name) (.leaf n_object_ToInt c_object_ToInt))) (.leaf n_heap_cellKind c_heap_cellKind)) (.node (.node (.node .nil (.node (.leaf n_object_kind_number c_object_kind_number) (.leaf n_heap_store_bare c_heap_store_bare))) .nil) (.node (.leaf n_heap_replaced_byte c_heap_replaced_byte) (.leaf n_object_Int c_object_Int)))) (.node (.node (.node (.node .nil (.node (.node (.leaf n_heap_Size c_heap_Size) (.leaf n_slices_Contains_Obj c_slices_Contains_Obj)) (.leaf n_law11_name c_law11_name))) (.node .nil (.node (.leaf n_object_Name_1 c_object_Name_1) (.leaf n_heap_Reach_1 c_heap_Reach_1)))) (.leaf n_heap_view_room c_heap_view_room)) (.node (.node (.node .nil (.node (.leaf n_object_kind_referring c_object_kind_referring) (.leaf n_heap_store_keyed c_heap_store_keyed))) (.leaf n_object_numberOf c_object_numberOf)) (.node (.node (.leaf n_heap_replaced_Obj c_heap_replaced_Obj) (.node (.leaf n_heap_Reach c_heap_Reach) (.leaf n_heap_octets c_heap_octets))) (.node .nil (.node (.node (.leaf n_heap_Key c_heap_Key) (.leaf n_object_made_int c_object_made_int)) .nil)))))))
def tabO : TF := (.leaf n_law11_sample c_law11_sample)
def tabN : TF := (.leaf n_heap_Reach_1 c_heap_Reach_1)
def tabR : TF := (.leaf n_heap_objects_1 c_heap_objects_1)
def ext (_ : Nat) : Option RunI := none
theorem allC (C : Laid P) : tabC.all (chkFn P) = true := by simp only [tabC, TF.all, k_law11_wakes C, k_heap_Check C, k_heap_Total C, k_heap_Size C, k_heap_Fits C, k_heap_New C, k_heap_Equal C, k_slices_Equal_bool C, k_heap_Reach C, k_heap_PutBytes C, k_heap_Bytes C, k_heap_Items C, k_heap_Key C, k_heap_Find C, k_heap_Store C, k_law11_str C, k_law11_name C, k_heap_store_bare C, k_heap_store_limited C, k_heap_store_keyed C, k_object_Check C, k_heap_cellKind C, k_heap_length C, k_object_Compare C, k_heap_octets C, k_heap_Reach_1 C, k_heap_objects C, k_heap_viewOf C, k_heap_view_room C, k_heap_view_cell C, k_heap_replaced_byte C, k_heap_view_with C, k_heap_replaced_Obj C, k_object_Key C, k_object_Name C, k_slices_Index_Obj C, k_slices_Contains_Obj C, k_object_kinds C, k_object_kind_number C, k_object_kind_named C, k_object_kind_referring C, k_object_Value C, k_heap_objects_1 C, k_slices_Contains_int C, k_object_ToInt C, k_object_made_string C, k_object_Name_1 C, k_object_kind_longest C, k_object_numberOf C, k_object_number_value C, k_slices_Index_int C, k_object_Int C, k_object_made_int C, k_object_Int_1 C, Bool.and_self]
theorem allO (C : Laid P) : tabO.all (chkFn P) = true := by simp only [tabO, TF.all, k_law11_sample C, Bool.and_self]
theorem allN (C : Laid P) : tabN.all (chkFn P) = true := by simp only [tabN, TF.all, k_heap_Reach_1 C, Bool.and_self]
theorem itr_heap_objects_1 (C : Laid P) : chkItr P n_heap_objects_1 c_heap_objects_1 = true := by
  unfold chkItr
  rw [k_heap_objects_1 C]
  kernel_rfl
theorem allR (C : Laid P) : tabR.all (chkItr P) = true := by simp only [tabR, TF.all, itr_heap_objects_1 C, Bool.and_self]
theorem extOk : InlOk P G fun g => (ext g).map extH := by
  intro g h hg
  cases hg
theorem kn0_ok' : ∀ g ps own r, kn0 g ps = some (own, r) → OkC P G g ps own r := fun _ _ _ _ h => by cases h
theorem run : isR [] (.bool true) ((envE G kn0 ext tabN.fn tabR.fn tabC.fn tabO.fn 10000 20).call n_law11_wakes []) = true := by kernel_rfl
theorem ok (C : Laid P) : OkC P G n_law11_wakes [] [] (.bool true) := ok_of_run C.mixed kn0_ok' extOk (TF.fn_all (allN C)) (TF.fn_all (allR C)) (TF.fn_all (allC C)) (TF.fn_all (allO C)) (isR_eq run)
end Go.Ab.Td.TdW11
