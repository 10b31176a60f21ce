/- The tables of the functions. Under: nothing. -/
import Derived.Test.YtblkalcialfiaaaDoorTdCd1
namespace Go.Ab.Td
open Go.Ab
def tab0 : TF := (.node (.node (.node (.node (.node (.leaf n_ref18_Names c_ref18_Names) (.leaf n_heap_Remove c_heap_Remove)) (.node (.node (.node (.leaf n_law18_ResourceFinds c_law18_ResourceFinds) (.leaf n_ref11_Bytes c_ref11_Bytes)) .nil) (.leaf n_ref11_Categories c_ref11_Categories))) (.node (.leaf n_ref11_Key c_ref11_Key) (.leaf n_resource_Do c_resource_Do))) (.node (.node (.leaf n_law18_wakes c_law18_wakes) (.node (.leaf n_ref11_Same c_ref11_Same) (.leaf n_ref18_Find c_ref18_Find))) (.node (.node (.leaf n_heap_Fits c_heap_Fits) (.node (.leaf n_ref11_Word_Obj c_ref11_Word_Obj) (.leaf n_law18_then c_law18_then))) (.leaf n_heap_Find c_heap_Find)))) (.node (.node (.node (.leaf n_heap_Key c_heap_Key) (.node .nil (.node (.leaf n_ref11_SameState c_ref11_SameState) (.leaf n_resource_Find c_resource_Find)))) (.node (.node (.leaf n_heap_Bytes c_heap_Bytes) (.leaf n_ref18_Do c_ref18_Do)) (.leaf n_ref11_SameCell c_ref11_SameCell))) (.node (.node (.leaf n_ref11_Draft_State c_ref11_Draft_State) (.leaf n_ref11_Draft_Heap c_ref11_Draft_Heap)) (.node (.leaf n_law18_name c_law18_name) (.leaf n_heap_Store c_heap_Store)))))
def tab1 : TF := (.node (.node (.node (.node (.leaf n_ref11_pick c_ref11_pick) (.node .nil (.node (.leaf n_ref12_Instead c_ref12_Instead) (.leaf n_object_Key c_object_Key)))) (.node .nil (.node (.leaf n_heap_cellKind c_heap_cellKind) (.node (.leaf n_ref11_part c_ref11_part) (.leaf n_law18_is c_law18_is))))) (.node (.node (.node (.leaf n_ref11_SameG c_ref11_SameG) (.leaf n_ref11_Store c_ref11_Store)) (.node .nil (.node (.leaf n_ref10_Int c_ref10_Int) (.leaf n_law18_first c_law18_first)))) (.leaf n_law18_fails c_law18_fails))) (.node (.node (.node (.node (.leaf n_ref11_sameObjs c_ref11_sameObjs) (.leaf n_ref11_Find c_ref11_Find)) (.leaf n_object_Name c_object_Name)) (.node (.leaf n_slices_Equal_Obj c_slices_Equal_Obj) (.node (.leaf n_heap_length c_heap_length) (.node (.leaf n_slices_Clone_Obj c_slices_Clone_Obj) (.leaf n_law18_truth c_law18_truth))))) (.node (.node (.leaf n_ref10_Value c_ref10_Value) (.node (.leaf n_object_Check c_object_Check) (.node (.leaf n_ref11_Word_Cell c_ref11_Word_Cell) (.leaf n_law18_d c_law18_d)))) (.node .nil (.node (.leaf n_ref11_First c_ref11_First) (.leaf n_law18_i c_law18_i))))))
def tab2 : TF := (.node (.node (.node (.node .nil (.node (.leaf n_resource_library_asked c_resource_library_asked) (.leaf n_slices_Index_Obj c_slices_Index_Obj))) (.node (.node (.leaf n_ref18_Suits c_ref18_Suits) (.leaf n_heap_replaced_Obj c_heap_replaced_Obj)) (.node (.leaf n_resource_library_lookup c_resource_library_lookup) (.leaf n_ref11_dict c_ref11_dict)))) (.node (.node (.leaf n_ref12_In c_ref12_In) (.node (.leaf n_resource_Do_1_1 c_resource_Do_1_1) (.leaf n_ref11_index c_ref11_index))) (.node (.leaf n_resource_library_dictionary c_resource_library_dictionary) (.node (.leaf n_resource_library_status c_resource_library_status) (.leaf n_stack_Push c_stack_Push))))) (.node (.node (.node (.node (.leaf n_ref10_Key c_ref10_Key) (.leaf n_heap_view_cell c_heap_view_cell)) (.node (.leaf n_resource_Do_1 c_resource_Do_1) (.leaf n_slices_Delete_Obj c_slices_Delete_Obj))) (.node (.leaf n_ref11_With c_ref11_With) (.node (.leaf n_resource_library_remove c_resource_library_remove) (.leaf n_ref11_name c_ref11_name)))) (.node (.node (.node (.leaf n_ref18_Dict c_ref18_Dict) (.leaf n_heap_view_with c_heap_view_with)) (.leaf n_resource_library_define c_resource_library_define)) (.node (.leaf n_resource_library_find c_resource_library_find) (.leaf n_heap_viewOf c_heap_viewOf)))))
def tab3 : TF := (.node (.node (.node (.node (.leaf n_ref10_ToInt c_ref10_ToInt) (.node (.leaf n_object_kind_number c_object_kind_number) (.leaf n_object_number_value c_object_number_value))) (.leaf n_slices_Index_int c_slices_Index_int)) (.node (.node (.leaf n_resource_library_done c_resource_library_done) (.node (.leaf n_object_kind_referring c_object_kind_referring) (.leaf n_resource_isDict c_resource_isDict))) (.node (.leaf n_object_kind_longest c_object_kind_longest) (.node (.leaf n_object_made_string c_object_made_string) (.leaf n_object_made_int c_object_made_int))))) (.node (.node (.node (.node (.leaf n_stack_Drop c_stack_Drop) (.leaf n_resource_suits c_resource_suits)) (.node (.leaf n_object_kind_named c_object_kind_named) (.leaf n_object_Int c_object_Int))) (.leaf n_object_ToInt c_object_ToInt)) (.node (.node (.leaf n_slices_Contains_int c_slices_Contains_int) (.node (.leaf n_object_Value c_object_Value) (.leaf n_resource_isArray c_resource_isArray))) (.node (.node (.leaf n_object_kinds c_object_kinds) (.leaf n_object_numberOf c_object_numberOf)) (.node (.leaf n_object_Name_1 c_object_Name_1) (.node (.leaf n_stack_Top c_stack_Top) (.leaf n_object_Int_1 c_object_Int_1)))))))
/-- The program is laid so. -/
structure Laid (P : Program) : Prop where
  mixed : P.follows .mixedOrders = true
  t0 : tab0.all (chkFn P) = true
  t1 : tab1.all (chkFn P) = true
  t2 : tab2.all (chkFn P) = true
  t3 : tab3.all (chkFn P) = true
variable {P : Program}
theorem k_law18_ResourceFinds (C : Laid P) : chkFn P n_law18_ResourceFinds c_law18_ResourceFinds = true := TF.fn_all C.t0 _ _ rfl
theorem k_ref11_Word_Obj (C : Laid P) : chkFn P n_ref11_Word_Obj c_ref11_Word_Obj = true := TF.fn_all C.t0 _ _ rfl
theorem k_ref11_SameState (C : Laid P) : chkFn P n_ref11_SameState c_ref11_SameState = true := TF.fn_all C.t0 _ _ rfl
theorem k_heap_Fits (C : Laid P) : chkFn P n_heap_Fits c_heap_Fits = true := TF.fn_all C.t0 _ _ rfl
theorem k_ref11_Same (C : Laid P) : chkFn P n_ref11_Same c_ref11_Same = true := TF.fn_all C.t0 _ _ rfl
theorem k_ref11_Draft_Heap (C : Laid P) : chkFn P n_ref11_Draft_Heap c_ref11_Draft_Heap = true := TF.fn_all C.t0 _ _ rfl
theorem k_heap_Key (C : Laid P) : chkFn P n_heap_Key c_heap_Key = true := TF.fn_all C.t0 _ _ rfl
theorem k_law18_wakes (C : Laid P) : chkFn P n_law18_wakes c_law18_wakes = true := TF.fn_all C.t0 _ _ rfl
theorem k_ref11_Draft_State (C : Laid P) : chkFn P n_ref11_Draft_State c_ref11_Draft_State = true := TF.fn_all C.t0 _ _ rfl
theorem k_ref11_Key (C : Laid P) : chkFn P n_ref11_Key c_ref11_Key = true := TF.fn_all C.t0 _ _ rfl
theorem k_ref18_Do (C : Laid P) : chkFn P n_ref18_Do c_ref18_Do = true := TF.fn_all C.t0 _ _ rfl
theorem k_law18_then (C : Laid P) : chkFn P n_law18_then c_law18_then = true := TF.fn_all C.t0 _ _ rfl
theorem k_law18_name (C : Laid P) : chkFn P n_law18_name c_law18_name = true := TF.fn_all C.t0 _ _ rfl
theorem k_ref11_Categories (C : Laid P) : chkFn P n_ref11_Categories c_ref11_Categories = true := TF.fn_all C.t0 _ _ rfl
theorem k_resource_Find (C : Laid P) : chkFn P n_resource_Find c_resource_Find = true := TF.fn_all C.t0 _ _ rfl
theorem k_ref18_Find (C : Laid P) : chkFn P n_ref18_Find c_ref18_Find = true := TF.fn_all C.t0 _ _ rfl
theorem k_resource_Do (C : Laid P) : chkFn P n_resource_Do c_resource_Do = true := TF.fn_all C.t0 _ _ rfl
theorem k_ref11_SameCell (C : Laid P) : chkFn P n_ref11_SameCell c_ref11_SameCell = true := TF.fn_all C.t0 _ _ rfl
theorem k_ref18_Names (C : Laid P) : chkFn P n_ref18_Names c_ref18_Names = true := TF.fn_all C.t0 _ _ rfl
theorem k_heap_Bytes (C : Laid P) : chkFn P n_heap_Bytes c_heap_Bytes = true := TF.fn_all C.t0 _ _ rfl
theorem k_ref11_Bytes (C : Laid P) : chkFn P n_ref11_Bytes c_ref11_Bytes = true := TF.fn_all C.t0 _ _ rfl
theorem k_heap_Find (C : Laid P) : chkFn P n_heap_Find c_heap_Find = true := TF.fn_all C.t0 _ _ rfl
theorem k_heap_Store (C : Laid P) : chkFn P n_heap_Store c_heap_Store = true := TF.fn_all C.t0 _ _ rfl
theorem k_heap_Remove (C : Laid P) : chkFn P n_heap_Remove c_heap_Remove = true := TF.fn_all C.t0 _ _ rfl
theorem k_ref11_Find (C : Laid P) : chkFn P n_ref11_Find c_ref11_Find = true := TF.fn_all C.t1 _ _ rfl
theorem k_ref11_Store (C : Laid P) : chkFn P n_ref11_Store c_ref11_Store = true := TF.fn_all C.t1 _ _ rfl
theorem k_slices_Equal_Obj (C : Laid P) : chkFn P n_slices_Equal_Obj c_slices_Equal_Obj = true := TF.fn_all C.t1 _ _ rfl
theorem k_ref12_Instead (C : Laid P) : chkFn P n_ref12_Instead c_ref12_Instead = true := TF.fn_all C.t1 _ _ rfl
theorem k_ref10_Int (C : Laid P) : chkFn P n_ref10_Int c_ref10_Int = true := TF.fn_all C.t1 _ _ rfl
theorem k_ref11_Word_Cell (C : Laid P) : chkFn P n_ref11_Word_Cell c_ref11_Word_Cell = true := TF.fn_all C.t1 _ _ rfl
theorem k_ref11_part (C : Laid P) : chkFn P n_ref11_part c_ref11_part = true := TF.fn_all C.t1 _ _ rfl
theorem k_slices_Clone_Obj (C : Laid P) : chkFn P n_slices_Clone_Obj c_slices_Clone_Obj = true := TF.fn_all C.t1 _ _ rfl
theorem k_ref11_sameObjs (C : Laid P) : chkFn P n_ref11_sameObjs c_ref11_sameObjs = true := TF.fn_all C.t1 _ _ rfl
theorem k_ref11_SameG (C : Laid P) : chkFn P n_ref11_SameG c_ref11_SameG = true := TF.fn_all C.t1 _ _ rfl
theorem k_object_Check (C : Laid P) : chkFn P n_object_Check c_object_Check = true := TF.fn_all C.t1 _ _ rfl
theorem k_heap_cellKind (C : Laid P) : chkFn P n_heap_cellKind c_heap_cellKind = true := TF.fn_all C.t1 _ _ rfl
theorem k_heap_length (C : Laid P) : chkFn P n_heap_length c_heap_length = true := TF.fn_all C.t1 _ _ rfl
theorem k_ref11_First (C : Laid P) : chkFn P n_ref11_First c_ref11_First = true := TF.fn_all C.t1 _ _ rfl
theorem k_ref10_Value (C : Laid P) : chkFn P n_ref10_Value c_ref10_Value = true := TF.fn_all C.t1 _ _ rfl
theorem k_object_Key (C : Laid P) : chkFn P n_object_Key c_object_Key = true := TF.fn_all C.t1 _ _ rfl
theorem k_object_Name (C : Laid P) : chkFn P n_object_Name c_object_Name = true := TF.fn_all C.t1 _ _ rfl
theorem k_law18_first (C : Laid P) : chkFn P n_law18_first c_law18_first = true := TF.fn_all C.t1 _ _ rfl
theorem k_law18_d (C : Laid P) : chkFn P n_law18_d c_law18_d = true := TF.fn_all C.t1 _ _ rfl
theorem k_law18_is (C : Laid P) : chkFn P n_law18_is c_law18_is = true := TF.fn_all C.t1 _ _ rfl
theorem k_law18_truth (C : Laid P) : chkFn P n_law18_truth c_law18_truth = true := TF.fn_all C.t1 _ _ rfl
theorem k_law18_fails (C : Laid P) : chkFn P n_law18_fails c_law18_fails = true := TF.fn_all C.t1 _ _ rfl
theorem k_law18_i (C : Laid P) : chkFn P n_law18_i c_law18_i = true := TF.fn_all C.t1 _ _ rfl
theorem k_ref11_pick (C : Laid P) : chkFn P n_ref11_pick c_ref11_pick = true := TF.fn_all C.t1 _ _ rfl
theorem k_ref10_Key (C : Laid P) : chkFn P n_ref10_Key c_ref10_Key = true := TF.fn_all C.t2 _ _ rfl
theorem k_ref12_In (C : Laid P) : chkFn P n_ref12_In c_ref12_In = true := TF.fn_all C.t2 _ _ rfl
theorem k_ref18_Dict (C : Laid P) : chkFn P n_ref18_Dict c_ref18_Dict = true := TF.fn_all C.t2 _ _ rfl
theorem k_ref18_Suits (C : Laid P) : chkFn P n_ref18_Suits c_ref18_Suits = true := TF.fn_all C.t2 _ _ rfl
theorem k_resource_library_dictionary (C : Laid P) : chkFn P n_resource_library_dictionary c_resource_library_dictionary = true := TF.fn_all C.t2 _ _ rfl
theorem k_resource_library_find (C : Laid P) : chkFn P n_resource_library_find c_resource_library_find = true := TF.fn_all C.t2 _ _ rfl
theorem k_resource_library_asked (C : Laid P) : chkFn P n_resource_library_asked c_resource_library_asked = true := TF.fn_all C.t2 _ _ rfl
theorem k_resource_Do_1 (C : Laid P) : chkFn P n_resource_Do_1 c_resource_Do_1 = true := TF.fn_all C.t2 _ _ rfl
theorem k_resource_Do_1_1 (C : Laid P) : chkFn P n_resource_Do_1_1 c_resource_Do_1_1 = true := TF.fn_all C.t2 _ _ rfl
theorem k_resource_library_define (C : Laid P) : chkFn P n_resource_library_define c_resource_library_define = true := TF.fn_all C.t2 _ _ rfl
theorem k_resource_library_lookup (C : Laid P) : chkFn P n_resource_library_lookup c_resource_library_lookup = true := TF.fn_all C.t2 _ _ rfl
theorem k_resource_library_remove (C : Laid P) : chkFn P n_resource_library_remove c_resource_library_remove = true := TF.fn_all C.t2 _ _ rfl
theorem k_resource_library_status (C : Laid P) : chkFn P n_resource_library_status c_resource_library_status = true := TF.fn_all C.t2 _ _ rfl
theorem k_heap_viewOf (C : Laid P) : chkFn P n_heap_viewOf c_heap_viewOf = true := TF.fn_all C.t2 _ _ rfl
theorem k_heap_view_cell (C : Laid P) : chkFn P n_heap_view_cell c_heap_view_cell = true := TF.fn_all C.t2 _ _ rfl
theorem k_heap_view_with (C : Laid P) : chkFn P n_heap_view_with c_heap_view_with = true := TF.fn_all C.t2 _ _ rfl
theorem k_heap_replaced_Obj (C : Laid P) : chkFn P n_heap_replaced_Obj c_heap_replaced_Obj = true := TF.fn_all C.t2 _ _ rfl
theorem k_ref11_With (C : Laid P) : chkFn P n_ref11_With c_ref11_With = true := TF.fn_all C.t2 _ _ rfl
theorem k_slices_Index_Obj (C : Laid P) : chkFn P n_slices_Index_Obj c_slices_Index_Obj = true := TF.fn_all C.t2 _ _ rfl
theorem k_slices_Delete_Obj (C : Laid P) : chkFn P n_slices_Delete_Obj c_slices_Delete_Obj = true := TF.fn_all C.t2 _ _ rfl
theorem k_ref11_index (C : Laid P) : chkFn P n_ref11_index c_ref11_index = true := TF.fn_all C.t2 _ _ rfl
theorem k_ref11_dict (C : Laid P) : chkFn P n_ref11_dict c_ref11_dict = true := TF.fn_all C.t2 _ _ rfl
theorem k_ref11_name (C : Laid P) : chkFn P n_ref11_name c_ref11_name = true := TF.fn_all C.t2 _ _ rfl
theorem k_stack_Push (C : Laid P) : chkFn P n_stack_Push c_stack_Push = true := TF.fn_all C.t2 _ _ rfl
theorem k_stack_Top (C : Laid P) : chkFn P n_stack_Top c_stack_Top = true := TF.fn_all C.t3 _ _ rfl
theorem k_stack_Drop (C : Laid P) : chkFn P n_stack_Drop c_stack_Drop = true := TF.fn_all C.t3 _ _ rfl
theorem k_object_kinds (C : Laid P) : chkFn P n_object_kinds c_object_kinds = true := TF.fn_all C.t3 _ _ rfl
theorem k_object_kind_number (C : Laid P) : chkFn P n_object_kind_number c_object_kind_number = true := TF.fn_all C.t3 _ _ rfl
theorem k_object_kind_named (C : Laid P) : chkFn P n_object_kind_named c_object_kind_named = true := TF.fn_all C.t3 _ _ rfl
theorem k_object_kind_referring (C : Laid P) : chkFn P n_object_kind_referring c_object_kind_referring = true := TF.fn_all C.t3 _ _ rfl
theorem k_object_Value (C : Laid P) : chkFn P n_object_Value c_object_Value = true := TF.fn_all C.t3 _ _ rfl
theorem k_object_ToInt (C : Laid P) : chkFn P n_object_ToInt c_object_ToInt = true := TF.fn_all C.t3 _ _ rfl
theorem k_object_made_string (C : Laid P) : chkFn P n_object_made_string c_object_made_string = true := TF.fn_all C.t3 _ _ rfl
theorem k_object_Name_1 (C : Laid P) : chkFn P n_object_Name_1 c_object_Name_1 = true := TF.fn_all C.t3 _ _ rfl
theorem k_ref10_ToInt (C : Laid P) : chkFn P n_ref10_ToInt c_ref10_ToInt = true := TF.fn_all C.t3 _ _ rfl
theorem k_resource_suits (C : Laid P) : chkFn P n_resource_suits c_resource_suits = true := TF.fn_all C.t3 _ _ rfl
theorem k_resource_library_done (C : Laid P) : chkFn P n_resource_library_done c_resource_library_done = true := TF.fn_all C.t3 _ _ rfl
theorem k_slices_Contains_int (C : Laid P) : chkFn P n_slices_Contains_int c_slices_Contains_int = true := TF.fn_all C.t3 _ _ rfl
theorem k_object_kind_longest (C : Laid P) : chkFn P n_object_kind_longest c_object_kind_longest = true := TF.fn_all C.t3 _ _ rfl
theorem k_object_numberOf (C : Laid P) : chkFn P n_object_numberOf c_object_numberOf = true := TF.fn_all C.t3 _ _ rfl
theorem k_object_number_value (C : Laid P) : chkFn P n_object_number_value c_object_number_value = true := TF.fn_all C.t3 _ _ rfl
theorem k_object_Int (C : Laid P) : chkFn P n_object_Int c_object_Int = true := TF.fn_all C.t3 _ _ rfl
theorem k_resource_isDict (C : Laid P) : chkFn P n_resource_isDict c_resource_isDict = true := TF.fn_all C.t3 _ _ rfl
theorem k_resource_isArray (C : Laid P) : chkFn P n_resource_isArray c_resource_isArray = true := TF.fn_all C.t3 _ _ rfl
theorem k_slices_Index_int (C : Laid P) : chkFn P n_slices_Index_int c_slices_Index_int = true := TF.fn_all C.t3 _ _ rfl
theorem k_object_made_int (C : Laid P) : chkFn P n_object_made_int c_object_made_int = true := TF.fn_all C.t3 _ _ rfl
theorem k_object_Int_1 (C : Laid P) : chkFn P n_object_Int_1 c_object_Int_1 = true := TF.fn_all C.t3 _ _ rfl
end Go.Ab.Td
