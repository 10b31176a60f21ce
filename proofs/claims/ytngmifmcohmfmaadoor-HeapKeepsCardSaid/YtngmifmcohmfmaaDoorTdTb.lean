/- The tables of the functions. Under: nothing. -/
import Derived.Test.YtngmifmcohmfmaaDoorTdCd0
namespace Go.Ab.Td
open Go.Ab
def tab0 : TF := (.node (.node (.node (.node (.leaf n_heap_Check c_heap_Check) (.leaf n_heap_New c_heap_New)) (.node (.leaf n_ref11_SameCell c_ref11_SameCell) (.node (.leaf n_heap_Equal c_heap_Equal) (.node (.leaf n_law11_wakes c_law11_wakes) (.leaf n_heap_Bytes c_heap_Bytes))))) (.node (.node .nil (.node (.leaf n_ref11_Same c_ref11_Same) (.leaf n_heap_PutBytes c_heap_PutBytes))) (.node (.node (.leaf n_heap_Fits c_heap_Fits) (.leaf n_ref11_Word_Obj c_ref11_Word_Obj)) (.leaf n_slices_Equal_bool c_slices_Equal_bool)))) (.node (.node (.node (.leaf n_heap_Total c_heap_Total) (.node (.leaf n_law11_HeapKeeps c_law11_HeapKeeps) (.leaf n_ref11_Word_Cell c_ref11_Word_Cell))) .nil) (.node (.node (.leaf n_heap_Size c_heap_Size) (.node (.leaf n_ref11_Draft_Heap c_ref11_Draft_Heap) (.leaf n_heap_Interval c_heap_Interval))) (.leaf n_heap_Reach c_heap_Reach))))
def tab1 : TF := (.node (.node (.node (.node (.leaf n_heap_Find c_heap_Find) (.leaf n_object_Check c_object_Check)) .nil) (.node (.node (.leaf n_law11_str c_law11_str) (.leaf n_heap_length c_heap_length)) (.node (.leaf n_heap_store_limited c_heap_store_limited) (.leaf n_heap_Items c_heap_Items)))) (.node (.node (.node (.node (.node (.leaf n_heap_Store c_heap_Store) (.leaf n_law11_sample c_law11_sample)) .nil) (.leaf n_heap_cellKind c_heap_cellKind)) (.node (.leaf n_heap_store_bare c_heap_store_bare) (.node (.node (.leaf n_ref11_Categories c_ref11_Categories) (.leaf n_ref11_First c_ref11_First)) (.leaf n_heap_PutItems c_heap_PutItems)))) (.node (.node (.leaf n_law11_name c_law11_name) (.leaf n_ref11_part c_ref11_part)) (.node (.leaf n_heap_store_keyed c_heap_store_keyed) (.node .nil (.node (.leaf n_ref11_sameObjs c_ref11_sameObjs) (.leaf n_heap_Key c_heap_Key)))))))
def tab2 : TF := (.node (.node (.node (.node (.leaf n_object_Key c_object_Key) (.leaf n_ref11_dict c_ref11_dict)) (.node (.node (.leaf n_object_kinds c_object_kinds) (.leaf n_heap_objects c_heap_objects)) (.leaf n_heap_view_cell c_heap_view_cell))) (.node (.node (.leaf n_slices_Index_Obj c_slices_Index_Obj) (.leaf n_heap_viewOf c_heap_viewOf)) (.node .nil (.node (.node (.leaf n_heap_view_with c_heap_view_with) (.leaf n_object_Compare c_object_Compare)) .nil)))) (.node (.node (.node (.leaf n_object_Name c_object_Name) (.leaf n_ref11_name c_ref11_name)) (.node (.leaf n_ref11_pick c_ref11_pick) (.leaf n_heap_replaced_byte c_heap_replaced_byte))) (.node (.node (.node (.leaf n_slices_Contains_Obj c_slices_Contains_Obj) (.leaf n_heap_Reach_1 c_heap_Reach_1)) (.leaf n_heap_view_room c_heap_view_room)) (.node .nil (.node (.node (.leaf n_heap_replaced_Obj c_heap_replaced_Obj) (.leaf n_heap_octets c_heap_octets)) .nil)))))
def tab3 : TF := (.node (.node (.node (.node (.node (.leaf n_object_Int_1 c_object_Int_1) (.leaf n_slices_Contains_int c_slices_Contains_int)) (.leaf n_object_number_value c_object_number_value)) (.node .nil (.node (.leaf n_heap_objects_1 c_heap_objects_1) (.leaf n_slices_Index_int c_slices_Index_int)))) (.node (.node (.leaf n_object_made_string c_object_made_string) (.leaf n_object_Value c_object_Value)) (.node (.node (.leaf n_object_kind_named c_object_kind_named) (.leaf n_object_kind_longest c_object_kind_longest)) .nil))) (.node (.node (.leaf n_object_ToInt c_object_ToInt) (.node (.leaf n_object_kind_number c_object_kind_number) (.leaf n_object_Int c_object_Int))) (.node (.leaf n_object_Name_1 c_object_Name_1) (.node (.node (.leaf n_object_kind_referring c_object_kind_referring) (.leaf n_object_numberOf c_object_numberOf)) (.leaf n_object_made_int c_object_made_int)))))
/-- The program is laid so. -/
structure Laid (P : Program) : Prop where
  mixed : P.follows .mixedOrders = true
  t0 : tab0.all (chkFn P) = true
  t1 : tab1.all (chkFn P) = true
  t2 : tab2.all (chkFn P) = true
  t3 : tab3.all (chkFn P) = true
variable {P : Program}
theorem k_law11_HeapKeeps (C : Laid P) : chkFn P n_law11_HeapKeeps c_law11_HeapKeeps = true := TF.fn_all C.t0 _ _ rfl
theorem k_ref11_Word_Obj (C : Laid P) : chkFn P n_ref11_Word_Obj c_ref11_Word_Obj = true := TF.fn_all C.t0 _ _ rfl
theorem k_law11_wakes (C : Laid P) : chkFn P n_law11_wakes c_law11_wakes = true := TF.fn_all C.t0 _ _ rfl
theorem k_heap_Check (C : Laid P) : chkFn P n_heap_Check c_heap_Check = true := TF.fn_all C.t0 _ _ rfl
theorem k_heap_Total (C : Laid P) : chkFn P n_heap_Total c_heap_Total = true := TF.fn_all C.t0 _ _ rfl
theorem k_heap_Size (C : Laid P) : chkFn P n_heap_Size c_heap_Size = true := TF.fn_all C.t0 _ _ rfl
theorem k_heap_Fits (C : Laid P) : chkFn P n_heap_Fits c_heap_Fits = true := TF.fn_all C.t0 _ _ rfl
theorem k_heap_New (C : Laid P) : chkFn P n_heap_New c_heap_New = true := TF.fn_all C.t0 _ _ rfl
theorem k_ref11_Same (C : Laid P) : chkFn P n_ref11_Same c_ref11_Same = true := TF.fn_all C.t0 _ _ rfl
theorem k_ref11_Draft_Heap (C : Laid P) : chkFn P n_ref11_Draft_Heap c_ref11_Draft_Heap = true := TF.fn_all C.t0 _ _ rfl
theorem k_heap_Equal (C : Laid P) : chkFn P n_heap_Equal c_heap_Equal = true := TF.fn_all C.t0 _ _ rfl
theorem k_slices_Equal_bool (C : Laid P) : chkFn P n_slices_Equal_bool c_slices_Equal_bool = true := TF.fn_all C.t0 _ _ rfl
theorem k_heap_Reach (C : Laid P) : chkFn P n_heap_Reach c_heap_Reach = true := TF.fn_all C.t0 _ _ rfl
theorem k_ref11_SameCell (C : Laid P) : chkFn P n_ref11_SameCell c_ref11_SameCell = true := TF.fn_all C.t0 _ _ rfl
theorem k_ref11_Word_Cell (C : Laid P) : chkFn P n_ref11_Word_Cell c_ref11_Word_Cell = true := TF.fn_all C.t0 _ _ rfl
theorem k_heap_PutBytes (C : Laid P) : chkFn P n_heap_PutBytes c_heap_PutBytes = true := TF.fn_all C.t0 _ _ rfl
theorem k_heap_Interval (C : Laid P) : chkFn P n_heap_Interval c_heap_Interval = true := TF.fn_all C.t0 _ _ rfl
theorem k_heap_Bytes (C : Laid P) : chkFn P n_heap_Bytes c_heap_Bytes = true := TF.fn_all C.t0 _ _ rfl
theorem k_heap_PutItems (C : Laid P) : chkFn P n_heap_PutItems c_heap_PutItems = true := TF.fn_all C.t1 _ _ rfl
theorem k_heap_Items (C : Laid P) : chkFn P n_heap_Items c_heap_Items = true := TF.fn_all C.t1 _ _ rfl
theorem k_heap_Key (C : Laid P) : chkFn P n_heap_Key c_heap_Key = true := TF.fn_all C.t1 _ _ rfl
theorem k_heap_Find (C : Laid P) : chkFn P n_heap_Find c_heap_Find = true := TF.fn_all C.t1 _ _ rfl
theorem k_heap_Store (C : Laid P) : chkFn P n_heap_Store c_heap_Store = true := TF.fn_all C.t1 _ _ rfl
theorem k_ref11_Categories (C : Laid P) : chkFn P n_ref11_Categories c_ref11_Categories = true := TF.fn_all C.t1 _ _ rfl
theorem k_ref11_part (C : Laid P) : chkFn P n_ref11_part c_ref11_part = true := TF.fn_all C.t1 _ _ rfl
theorem k_ref11_sameObjs (C : Laid P) : chkFn P n_ref11_sameObjs c_ref11_sameObjs = true := TF.fn_all C.t1 _ _ rfl
theorem k_law11_sample (C : Laid P) : chkFn P n_law11_sample c_law11_sample = true := TF.fn_all C.t1 _ _ rfl
theorem k_law11_str (C : Laid P) : chkFn P n_law11_str c_law11_str = true := TF.fn_all C.t1 _ _ rfl
theorem k_law11_name (C : Laid P) : chkFn P n_law11_name c_law11_name = true := TF.fn_all C.t1 _ _ rfl
theorem k_heap_store_bare (C : Laid P) : chkFn P n_heap_store_bare c_heap_store_bare = true := TF.fn_all C.t1 _ _ rfl
theorem k_heap_store_limited (C : Laid P) : chkFn P n_heap_store_limited c_heap_store_limited = true := TF.fn_all C.t1 _ _ rfl
theorem k_heap_store_keyed (C : Laid P) : chkFn P n_heap_store_keyed c_heap_store_keyed = true := TF.fn_all C.t1 _ _ rfl
theorem k_object_Check (C : Laid P) : chkFn P n_object_Check c_object_Check = true := TF.fn_all C.t1 _ _ rfl
theorem k_heap_cellKind (C : Laid P) : chkFn P n_heap_cellKind c_heap_cellKind = true := TF.fn_all C.t1 _ _ rfl
theorem k_heap_length (C : Laid P) : chkFn P n_heap_length c_heap_length = true := TF.fn_all C.t1 _ _ rfl
theorem k_ref11_First (C : Laid P) : chkFn P n_ref11_First c_ref11_First = true := TF.fn_all C.t1 _ _ rfl
theorem k_object_Compare (C : Laid P) : chkFn P n_object_Compare c_object_Compare = true := TF.fn_all C.t2 _ _ rfl
theorem k_heap_octets (C : Laid P) : chkFn P n_heap_octets c_heap_octets = true := TF.fn_all C.t2 _ _ rfl
theorem k_heap_Reach_1 (C : Laid P) : chkFn P n_heap_Reach_1 c_heap_Reach_1 = true := TF.fn_all C.t2 _ _ rfl
theorem k_heap_objects (C : Laid P) : chkFn P n_heap_objects c_heap_objects = true := TF.fn_all C.t2 _ _ rfl
theorem k_ref11_dict (C : Laid P) : chkFn P n_ref11_dict c_ref11_dict = true := TF.fn_all C.t2 _ _ rfl
theorem k_ref11_name (C : Laid P) : chkFn P n_ref11_name c_ref11_name = true := TF.fn_all C.t2 _ _ rfl
theorem k_heap_viewOf (C : Laid P) : chkFn P n_heap_viewOf c_heap_viewOf = true := TF.fn_all C.t2 _ _ rfl
theorem k_heap_view_room (C : Laid P) : chkFn P n_heap_view_room c_heap_view_room = true := TF.fn_all C.t2 _ _ rfl
theorem k_heap_view_cell (C : Laid P) : chkFn P n_heap_view_cell c_heap_view_cell = true := TF.fn_all C.t2 _ _ rfl
theorem k_heap_replaced_byte (C : Laid P) : chkFn P n_heap_replaced_byte c_heap_replaced_byte = true := TF.fn_all C.t2 _ _ rfl
theorem k_heap_view_with (C : Laid P) : chkFn P n_heap_view_with c_heap_view_with = true := TF.fn_all C.t2 _ _ rfl
theorem k_heap_replaced_Obj (C : Laid P) : chkFn P n_heap_replaced_Obj c_heap_replaced_Obj = true := TF.fn_all C.t2 _ _ rfl
theorem k_object_Key (C : Laid P) : chkFn P n_object_Key c_object_Key = true := TF.fn_all C.t2 _ _ rfl
theorem k_object_Name (C : Laid P) : chkFn P n_object_Name c_object_Name = true := TF.fn_all C.t2 _ _ rfl
theorem k_slices_Index_Obj (C : Laid P) : chkFn P n_slices_Index_Obj c_slices_Index_Obj = true := TF.fn_all C.t2 _ _ rfl
theorem k_ref11_pick (C : Laid P) : chkFn P n_ref11_pick c_ref11_pick = true := TF.fn_all C.t2 _ _ rfl
theorem k_slices_Contains_Obj (C : Laid P) : chkFn P n_slices_Contains_Obj c_slices_Contains_Obj = true := TF.fn_all C.t2 _ _ rfl
theorem k_object_kinds (C : Laid P) : chkFn P n_object_kinds c_object_kinds = true := TF.fn_all C.t2 _ _ rfl
theorem k_object_kind_number (C : Laid P) : chkFn P n_object_kind_number c_object_kind_number = true := TF.fn_all C.t3 _ _ rfl
theorem k_object_kind_named (C : Laid P) : chkFn P n_object_kind_named c_object_kind_named = true := TF.fn_all C.t3 _ _ rfl
theorem k_object_kind_referring (C : Laid P) : chkFn P n_object_kind_referring c_object_kind_referring = true := TF.fn_all C.t3 _ _ rfl
theorem k_object_Value (C : Laid P) : chkFn P n_object_Value c_object_Value = true := TF.fn_all C.t3 _ _ rfl
theorem k_heap_objects_1 (C : Laid P) : chkFn P n_heap_objects_1 c_heap_objects_1 = true := TF.fn_all C.t3 _ _ rfl
theorem k_slices_Contains_int (C : Laid P) : chkFn P n_slices_Contains_int c_slices_Contains_int = true := TF.fn_all C.t3 _ _ rfl
theorem k_object_ToInt (C : Laid P) : chkFn P n_object_ToInt c_object_ToInt = true := TF.fn_all C.t3 _ _ rfl
theorem k_object_made_string (C : Laid P) : chkFn P n_object_made_string c_object_made_string = true := TF.fn_all C.t3 _ _ rfl
theorem k_object_Name_1 (C : Laid P) : chkFn P n_object_Name_1 c_object_Name_1 = true := TF.fn_all C.t3 _ _ rfl
theorem k_object_kind_longest (C : Laid P) : chkFn P n_object_kind_longest c_object_kind_longest = true := TF.fn_all C.t3 _ _ rfl
theorem k_object_numberOf (C : Laid P) : chkFn P n_object_numberOf c_object_numberOf = true := TF.fn_all C.t3 _ _ rfl
theorem k_object_number_value (C : Laid P) : chkFn P n_object_number_value c_object_number_value = true := TF.fn_all C.t3 _ _ rfl
theorem k_slices_Index_int (C : Laid P) : chkFn P n_slices_Index_int c_slices_Index_int = true := TF.fn_all C.t3 _ _ rfl
theorem k_object_Int (C : Laid P) : chkFn P n_object_Int c_object_Int = true := TF.fn_all C.t3 _ _ rfl
theorem k_object_made_int (C : Laid P) : chkFn P n_object_made_int c_object_made_int = true := TF.fn_all C.t3 _ _ rfl
theorem k_object_Int_1 (C : Laid P) : chkFn P n_object_Int_1 c_object_Int_1 = true := TF.fn_all C.t3 _ _ rfl
end Go.Ab.Td
