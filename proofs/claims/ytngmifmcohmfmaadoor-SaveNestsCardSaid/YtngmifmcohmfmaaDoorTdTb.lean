/- The tables of the functions. Under: nothing. -/
import Derived.Test.YtngmifmcohmfmaaDoorTdCd0
namespace Go.Ab.Td
open Go.Ab
def tab0 : TF := (.node (.node (.node (.node (.leaf n_law19_start c_law19_start) (.leaf n_save_Do c_save_Do)) (.node (.node (.leaf n_law19_SaveNests c_law19_SaveNests) (.leaf n_ref11_SameCell c_ref11_SameCell)) .nil)) (.node (.node .nil (.node (.leaf n_ref11_Same c_ref11_Same) (.leaf n_save_Cells c_save_Cells))) (.node (.node (.leaf n_heap_Fits c_heap_Fits) (.leaf n_ref11_Word_Obj c_ref11_Word_Obj)) .nil))) (.node (.node (.node (.leaf n_heap_Total c_heap_Total) (.leaf n_ref11_SameState c_ref11_SameState)) (.leaf n_law19_saved c_law19_saved)) (.node (.node (.leaf n_heap_Size c_heap_Size) (.leaf n_ref11_Draft_Heap c_ref11_Draft_Heap)) (.node (.leaf n_law19_with c_law19_with) (.leaf n_law19_wakes c_law19_wakes)))))
def tab1 : TF := (.node (.node (.node (.node (.leaf n_save_keeper_find c_save_keeper_find) (.leaf n_slices_Clone_Obj c_slices_Clone_Obj)) (.node (.leaf n_save_Newer c_save_Newer) (.node (.leaf n_ref11_Draft_State c_ref11_Draft_State) (.leaf n_save_keeper_save c_save_keeper_save)))) (.node (.leaf n_heap_PutBytes c_heap_PutBytes) (.leaf n_save_keeper_vmstatus c_save_keeper_vmstatus))) (.node (.node (.node .nil (.node (.leaf n_slices_Equal_Obj c_slices_Equal_Obj) (.leaf n_ref11_Word_Cell c_ref11_Word_Cell))) (.node .nil (.node (.leaf n_ref11_Categories c_ref11_Categories) (.leaf n_save_keeper_restore c_save_keeper_restore)))) (.node (.node (.leaf n_law19_first c_law19_first) (.leaf n_ref11_part c_ref11_part)) (.node (.leaf n_ref11_SameG c_ref11_SameG) (.leaf n_ref11_sameObjs c_ref11_sameObjs)))))
def tab2 : TF := (.node (.node (.node (.node .nil (.node (.node (.leaf n_ref11_dict c_ref11_dict) (.leaf n_object_Check c_object_Check)) .nil)) (.node .nil (.node (.leaf n_heap_view_cell c_heap_view_cell) (.leaf n_stack_Top c_stack_Top)))) (.node (.node .nil (.node (.node (.leaf n_heap_viewOf c_heap_viewOf) (.leaf n_heap_length c_heap_length)) .nil)) (.leaf n_heap_view_with c_heap_view_with))) (.node (.node (.node .nil (.node (.node (.leaf n_ref11_name c_ref11_name) (.leaf n_heap_cellKind c_heap_cellKind)) .nil)) (.node (.leaf n_ref11_pick c_ref11_pick) (.node (.node (.leaf n_heap_replaced_byte c_heap_replaced_byte) (.leaf n_ref11_First c_ref11_First)) (.leaf n_save_keeper_restore_1 c_save_keeper_restore_1)))) (.node (.node .nil (.node (.leaf n_heap_view_room c_heap_view_room) (.leaf n_stack_Push c_stack_Push))) .nil)))
def tab3 : TF := (.node (.node (.node (.node (.node (.leaf n_save_keeper_saves c_save_keeper_saves) (.leaf n_slices_Contains_int c_slices_Contains_int)) .nil) (.node (.node (.leaf n_object_kinds c_object_kinds) (.leaf n_slices_ContainsFunc_Obj c_slices_ContainsFunc_Obj)) (.leaf n_slices_Index_int c_slices_Index_int))) (.node .nil (.node (.node (.leaf n_object_kind_named c_object_kind_named) (.leaf n_object_kind_longest c_object_kind_longest)) (.node .nil (.node (.leaf n_stack_Drop c_stack_Drop) (.leaf n_slices_IndexFunc_Obj c_slices_IndexFunc_Obj)))))) (.node (.node .nil (.node (.node (.leaf n_object_kind_number c_object_kind_number) (.leaf n_save_keeper_saves_1 c_save_keeper_saves_1)) .nil)) (.node .nil (.node (.leaf n_object_kind_referring c_object_kind_referring) (.leaf n_save_some_Obj c_save_some_Obj)))))
/-- The program is laid so. -/
structure Laid (P : Program) : Prop where
  mixed : P.follows .mixedOrders = true
  t0 : tab0.all (chkFn P) = true
  t1 : tab1.all (chkFn P) = true
  t2 : tab2.all (chkFn P) = true
  t3 : tab3.all (chkFn P) = true
variable {P : Program}
theorem k_law19_SaveNests (C : Laid P) : chkFn P n_law19_SaveNests c_law19_SaveNests = true := TF.fn_all C.t0 _ _ rfl
theorem k_law19_wakes (C : Laid P) : chkFn P n_law19_wakes c_law19_wakes = true := TF.fn_all C.t0 _ _ rfl
theorem k_law19_start (C : Laid P) : chkFn P n_law19_start c_law19_start = true := TF.fn_all C.t0 _ _ rfl
theorem k_law19_saved (C : Laid P) : chkFn P n_law19_saved c_law19_saved = true := TF.fn_all C.t0 _ _ rfl
theorem k_ref11_Word_Obj (C : Laid P) : chkFn P n_ref11_Word_Obj c_ref11_Word_Obj = true := TF.fn_all C.t0 _ _ rfl
theorem k_law19_with (C : Laid P) : chkFn P n_law19_with c_law19_with = true := TF.fn_all C.t0 _ _ rfl
theorem k_save_Do (C : Laid P) : chkFn P n_save_Do c_save_Do = true := TF.fn_all C.t0 _ _ rfl
theorem k_ref11_SameState (C : Laid P) : chkFn P n_ref11_SameState c_ref11_SameState = true := TF.fn_all C.t0 _ _ rfl
theorem k_save_Cells (C : Laid P) : chkFn P n_save_Cells c_save_Cells = true := TF.fn_all C.t0 _ _ rfl
theorem k_heap_Total (C : Laid P) : chkFn P n_heap_Total c_heap_Total = true := TF.fn_all C.t0 _ _ rfl
theorem k_heap_Size (C : Laid P) : chkFn P n_heap_Size c_heap_Size = true := TF.fn_all C.t0 _ _ rfl
theorem k_heap_Fits (C : Laid P) : chkFn P n_heap_Fits c_heap_Fits = true := TF.fn_all C.t0 _ _ rfl
theorem k_ref11_Same (C : Laid P) : chkFn P n_ref11_Same c_ref11_Same = true := TF.fn_all C.t0 _ _ rfl
theorem k_ref11_Draft_Heap (C : Laid P) : chkFn P n_ref11_Draft_Heap c_ref11_Draft_Heap = true := TF.fn_all C.t0 _ _ rfl
theorem k_ref11_SameCell (C : Laid P) : chkFn P n_ref11_SameCell c_ref11_SameCell = true := TF.fn_all C.t0 _ _ rfl
theorem k_ref11_Word_Cell (C : Laid P) : chkFn P n_ref11_Word_Cell c_ref11_Word_Cell = true := TF.fn_all C.t1 _ _ rfl
theorem k_heap_PutBytes (C : Laid P) : chkFn P n_heap_PutBytes c_heap_PutBytes = true := TF.fn_all C.t1 _ _ rfl
theorem k_ref11_SameG (C : Laid P) : chkFn P n_ref11_SameG c_ref11_SameG = true := TF.fn_all C.t1 _ _ rfl
theorem k_slices_Clone_Obj (C : Laid P) : chkFn P n_slices_Clone_Obj c_slices_Clone_Obj = true := TF.fn_all C.t1 _ _ rfl
theorem k_slices_Equal_Obj (C : Laid P) : chkFn P n_slices_Equal_Obj c_slices_Equal_Obj = true := TF.fn_all C.t1 _ _ rfl
theorem k_ref11_Draft_State (C : Laid P) : chkFn P n_ref11_Draft_State c_ref11_Draft_State = true := TF.fn_all C.t1 _ _ rfl
theorem k_ref11_Categories (C : Laid P) : chkFn P n_ref11_Categories c_ref11_Categories = true := TF.fn_all C.t1 _ _ rfl
theorem k_law19_first (C : Laid P) : chkFn P n_law19_first c_law19_first = true := TF.fn_all C.t1 _ _ rfl
theorem k_save_Newer (C : Laid P) : chkFn P n_save_Newer c_save_Newer = true := TF.fn_all C.t1 _ _ rfl
theorem k_ref11_part (C : Laid P) : chkFn P n_ref11_part c_ref11_part = true := TF.fn_all C.t1 _ _ rfl
theorem k_save_keeper_save (C : Laid P) : chkFn P n_save_keeper_save c_save_keeper_save = true := TF.fn_all C.t1 _ _ rfl
theorem k_save_keeper_restore (C : Laid P) : chkFn P n_save_keeper_restore c_save_keeper_restore = true := TF.fn_all C.t1 _ _ rfl
theorem k_save_keeper_vmstatus (C : Laid P) : chkFn P n_save_keeper_vmstatus c_save_keeper_vmstatus = true := TF.fn_all C.t1 _ _ rfl
theorem k_ref11_sameObjs (C : Laid P) : chkFn P n_ref11_sameObjs c_ref11_sameObjs = true := TF.fn_all C.t1 _ _ rfl
theorem k_save_keeper_find (C : Laid P) : chkFn P n_save_keeper_find c_save_keeper_find = true := TF.fn_all C.t1 _ _ rfl
theorem k_object_Check (C : Laid P) : chkFn P n_object_Check c_object_Check = true := TF.fn_all C.t2 _ _ rfl
theorem k_heap_cellKind (C : Laid P) : chkFn P n_heap_cellKind c_heap_cellKind = true := TF.fn_all C.t2 _ _ rfl
theorem k_heap_length (C : Laid P) : chkFn P n_heap_length c_heap_length = true := TF.fn_all C.t2 _ _ rfl
theorem k_ref11_First (C : Laid P) : chkFn P n_ref11_First c_ref11_First = true := TF.fn_all C.t2 _ _ rfl
theorem k_ref11_dict (C : Laid P) : chkFn P n_ref11_dict c_ref11_dict = true := TF.fn_all C.t2 _ _ rfl
theorem k_ref11_name (C : Laid P) : chkFn P n_ref11_name c_ref11_name = true := TF.fn_all C.t2 _ _ rfl
theorem k_heap_viewOf (C : Laid P) : chkFn P n_heap_viewOf c_heap_viewOf = true := TF.fn_all C.t2 _ _ rfl
theorem k_heap_view_room (C : Laid P) : chkFn P n_heap_view_room c_heap_view_room = true := TF.fn_all C.t2 _ _ rfl
theorem k_heap_view_cell (C : Laid P) : chkFn P n_heap_view_cell c_heap_view_cell = true := TF.fn_all C.t2 _ _ rfl
theorem k_heap_replaced_byte (C : Laid P) : chkFn P n_heap_replaced_byte c_heap_replaced_byte = true := TF.fn_all C.t2 _ _ rfl
theorem k_heap_view_with (C : Laid P) : chkFn P n_heap_view_with c_heap_view_with = true := TF.fn_all C.t2 _ _ rfl
theorem k_ref11_pick (C : Laid P) : chkFn P n_ref11_pick c_ref11_pick = true := TF.fn_all C.t2 _ _ rfl
theorem k_stack_Push (C : Laid P) : chkFn P n_stack_Push c_stack_Push = true := TF.fn_all C.t2 _ _ rfl
theorem k_stack_Top (C : Laid P) : chkFn P n_stack_Top c_stack_Top = true := TF.fn_all C.t2 _ _ rfl
theorem k_save_keeper_restore_1 (C : Laid P) : chkFn P n_save_keeper_restore_1 c_save_keeper_restore_1 = true := TF.fn_all C.t2 _ _ rfl
theorem k_stack_Drop (C : Laid P) : chkFn P n_stack_Drop c_stack_Drop = true := TF.fn_all C.t3 _ _ rfl
theorem k_save_some_Obj (C : Laid P) : chkFn P n_save_some_Obj c_save_some_Obj = true := TF.fn_all C.t3 _ _ rfl
theorem k_save_keeper_saves (C : Laid P) : chkFn P n_save_keeper_saves c_save_keeper_saves = true := TF.fn_all C.t3 _ _ rfl
theorem k_object_kinds (C : Laid P) : chkFn P n_object_kinds c_object_kinds = true := TF.fn_all C.t3 _ _ rfl
theorem k_object_kind_number (C : Laid P) : chkFn P n_object_kind_number c_object_kind_number = true := TF.fn_all C.t3 _ _ rfl
theorem k_object_kind_named (C : Laid P) : chkFn P n_object_kind_named c_object_kind_named = true := TF.fn_all C.t3 _ _ rfl
theorem k_object_kind_referring (C : Laid P) : chkFn P n_object_kind_referring c_object_kind_referring = true := TF.fn_all C.t3 _ _ rfl
theorem k_slices_Contains_int (C : Laid P) : chkFn P n_slices_Contains_int c_slices_Contains_int = true := TF.fn_all C.t3 _ _ rfl
theorem k_slices_ContainsFunc_Obj (C : Laid P) : chkFn P n_slices_ContainsFunc_Obj c_slices_ContainsFunc_Obj = true := TF.fn_all C.t3 _ _ rfl
theorem k_save_keeper_saves_1 (C : Laid P) : chkFn P n_save_keeper_saves_1 c_save_keeper_saves_1 = true := TF.fn_all C.t3 _ _ rfl
theorem k_object_kind_longest (C : Laid P) : chkFn P n_object_kind_longest c_object_kind_longest = true := TF.fn_all C.t3 _ _ rfl
theorem k_slices_Index_int (C : Laid P) : chkFn P n_slices_Index_int c_slices_Index_int = true := TF.fn_all C.t3 _ _ rfl
theorem k_slices_IndexFunc_Obj (C : Laid P) : chkFn P n_slices_IndexFunc_Obj c_slices_IndexFunc_Obj = true := TF.fn_all C.t3 _ _ rfl
end Go.Ab.Td
