/- The code of functions of the program, printed by a program. Under: nothing. -/
import Derived.Test.YtngmifmcohmfmaaDoorTdCd0
namespace Go.Ab.Td
open Go.Ab
def c_ref10_Bare : RFn := ⟨1, 27, [.cell 2 true 7],
 .seq (.reg [⟨(some 1), .box 7 (.t 0), none, 0⟩,
 ⟨(some 2), .alloc [.pv (.int .i64 (0)), .pv (.bool false), .pv (.int .i64 (0)), .pv (.str []), .pv (.int .i64 (0)), .pv (.int .i64 (0)), .pv (.int .i64 (0))], none, 0⟩] false)
 (.seq (.seq (.reg [⟨(some 3), .faddr (.t 1) 0, none, 0⟩,
 ⟨(some 4), .load false 1 (.t 3), none, 1⟩] false)
 (.block 0
 (.seq (.seq (.reg [⟨(some 6), .bin .eql (.t 4) (.c (.pv (.int .i64 (2)))), none, 0⟩,
 ⟨(some 5), .mv (.t 6), none, 1⟩] false)
 (.cond (.t 5)
 (.skip)
 (.seq (.reg [⟨(some 7), .bin .eql (.t 4) (.c (.pv (.int .i64 (3)))), none, 0⟩,
 ⟨(some 5), .mv (.t 7), none, 1⟩] false)
 (.cond (.t 5)
 (.skip)
 (.seq (.reg [⟨(some 8), .bin .eql (.t 4) (.c (.pv (.int .i64 (4)))), none, 0⟩,
 ⟨(some 5), .mv (.t 8), none, 1⟩] false)
 (.cond (.t 5)
 (.skip)
 (.reg [⟨(some 9), .bin .eql (.t 4) (.c (.pv (.int .i64 (12)))), none, 0⟩,
 ⟨(some 5), .mv (.t 9), none, 1⟩] false)))))))
 (.cond (.t 5)
 (.reg [⟨(some 10), .faddr (.t 1) 2, none, 0⟩,
 ⟨none, .store 1 (.t 10) (.c (.pv (.int .i64 (0)))), none, 1⟩] false)
 (.seq (.seq (.reg [⟨(some 12), .bin .eql (.t 4) (.c (.pv (.int .i64 (5)))), none, 0⟩,
 ⟨(some 11), .mv (.t 12), none, 1⟩] false)
 (.cond (.t 11)
 (.skip)
 (.reg [⟨(some 13), .bin .eql (.t 4) (.c (.pv (.int .i64 (10)))), none, 0⟩,
 ⟨(some 11), .mv (.t 13), none, 1⟩] false)))
 (.cond (.t 11)
 (.reg [⟨(some 14), .faddr (.t 1) 3, none, 0⟩,
 ⟨none, .store 1 (.t 14) (.c (.pv (.str []))), none, 1⟩] false)
 (.seq (.seq (.reg [⟨(some 16), .bin .eql (.t 4) (.c (.pv (.int .i64 (6)))), none, 0⟩,
 ⟨(some 15), .mv (.t 16), none, 1⟩] false)
 (.cond (.t 15)
 (.skip)
 (.seq (.reg [⟨(some 17), .bin .eql (.t 4) (.c (.pv (.int .i64 (7)))), none, 0⟩,
 ⟨(some 15), .mv (.t 17), none, 1⟩] false)
 (.cond (.t 15)
 (.skip)
 (.reg [⟨(some 18), .bin .eql (.t 4) (.c (.pv (.int .i64 (8)))), none, 0⟩,
 ⟨(some 15), .mv (.t 18), none, 1⟩] false)))))
 (.cond (.t 15)
 (.seq (.reg [⟨(some 19), .faddr (.t 1) 4, none, 0⟩,
 ⟨none, .store 1 (.t 19) (.c (.pv (.int .i64 (0)))), none, 1⟩] false)
 (.seq (.reg [⟨(some 20), .faddr (.t 1) 5, none, 0⟩,
 ⟨none, .store 1 (.t 20) (.c (.pv (.int .i64 (0)))), none, 1⟩] false)
 (.reg [⟨(some 21), .faddr (.t 1) 6, none, 0⟩,
 ⟨none, .store 1 (.t 21) (.c (.pv (.int .i64 (0)))), none, 1⟩] false)))
 (.seq (.seq (.reg [⟨(some 23), .bin .eql (.t 4) (.c (.pv (.int .i64 (9)))), none, 0⟩,
 ⟨(some 22), .mv (.t 23), none, 1⟩] false)
 (.cond (.t 22)
 (.skip)
 (.reg [⟨(some 24), .bin .eql (.t 4) (.c (.pv (.int .i64 (11)))), none, 0⟩,
 ⟨(some 22), .mv (.t 24), none, 1⟩] false)))
 (.cond (.t 22)
 (.reg [⟨(some 25), .faddr (.t 1) 4, none, 0⟩,
 ⟨none, .store 1 (.t 25) (.c (.pv (.int .i64 (0)))), none, 1⟩] false)
 (.skip)))))))))))
 (.seq (.reg [⟨(some 26), .load true 7 (.t 1), none, 0⟩,
 ⟨none, .store 7 (.t 2) (.t 26), none, 1⟩] false)
 (.ret)))⟩
def c_object_Value : RFn := ⟨1, 16, [.tmp 2, .tmp 3],
 .seq (.reg [⟨(some 1), .box 7 (.t 0), none, 0⟩,
 ⟨(some 2), .mv (.c (.pv (.int .i64 (0)))), none, 0⟩,
 ⟨(some 3), .mv (.c (.pv (.int .i64 (0)))), none, 2⟩] false)
 (.seq (.reg [⟨(some 7), .load true 7 (.t 1), none, 0⟩,
 ⟨(some 8), .call (.f n_object_numberOf) [.t 7], none, 1⟩,
 ⟨(some 6), .mv (.t 8), none, 3⟩,
 ⟨(some 9), .extract (.t 6) 0, none, 7⟩,
 ⟨(some 10), .extract (.t 6) 1, none, 7⟩,
 ⟨(some 4), .alloc [.pv (.int .i64 (0)), .pv (.bool false), .pv (.int .i64 (0)), .pv (.str []), .pv (.int .i64 (0)), .pv (.int .i64 (0)), .pv (.int .i64 (0))], none, 0⟩,
 ⟨none, .store 7 (.t 4) (.t 9), none, 47⟩,
 ⟨(some 5), .mv (.t 10), none, 127⟩] false)
 (.seq (.seq (.reg [⟨(some 11), .mv (.t 5), none, 0⟩,
 ⟨(some 12), .bin .neq (.t 11) (.c (.pv (.int .i64 (0)))), none, 1⟩] false)
 (.cond (.t 12)
 (.seq (.reg [⟨(some 13), .mv (.t 5), none, 0⟩,
 ⟨(some 2), .mv (.c (.pv (.int .i64 (0)))), none, 0⟩,
 ⟨(some 3), .mv (.t 13), none, 3⟩] false)
 (.ret))
 (.skip)))
 (.seq (.reg [⟨(some 14), .load true 7 (.t 4), none, 0⟩,
 ⟨(some 15), .call (.f n_object_number_value) [.t 14], none, 1⟩,
 ⟨(some 2), .mv (.t 15), none, 3⟩,
 ⟨(some 3), .mv (.c (.pv (.int .i64 (0)))), none, 7⟩] false)
 (.ret))))⟩
def c_heap_objects_1 : RFn := ⟨2, 29, [],
 .seq (.reg [⟨(some 7), .faddr (.t 1) 2, none, 0⟩,
 ⟨(some 8), .load false 1 (.t 7), none, 1⟩,
 ⟨(some 9), .faddr (.t 1) 3, none, 0⟩,
 ⟨(some 10), .load false 1 (.t 9), none, 4⟩,
 ⟨(some 11), .faddr (.t 1) 4, none, 0⟩,
 ⟨(some 12), .load false 1 (.t 11), none, 16⟩,
 ⟨(some 13), .build [.emp 7, .emp 7, .emp 7] [(0, 1, .t 8), (1, 1, .t 10), (2, 1, .t 12)], none, 63⟩,
 ⟨(some 14), .mv (.c (.pv (.int .i64 (0)))), none, 0⟩] false)
 (.block 0
 (.loop [0, 13, 14]
 (.seq (.reg [⟨(some 15), .bin .lss (.t 14) (.c (.pv (.int .i64 (3)))), none, 0⟩] false)
 (.seq (.cond (.t 15)
 (.skip)
 (.exit 0))
 (.seq (.block 1
 (.seq (.reg [⟨(some 16), .index false 3 1 (.t 13) (.t 14), none, 0⟩,
 ⟨(some 4), .mv (.t 16), none, 1⟩] false)
 (.seq (.reg [⟨(some 17), .mv (.t 4), none, 0⟩,
 ⟨(some 18), .slen (.t 17), none, 1⟩,
 ⟨(some 19), .mv (.c (.pv (.int .i64 (0)))), none, 0⟩] false)
 (.block 2
 (.loop [0, 13, 14, 17, 18, 19]
 (.seq (.reg [⟨(some 20), .bin .lss (.t 19) (.t 18), none, 0⟩] false)
 (.seq (.cond (.t 20)
 (.skip)
 (.exit 2))
 (.seq (.block 3
 (.seq (.reg [⟨(some 21), .iaddr 7 (.t 17) (.t 19), none, 0⟩,
 ⟨(some 22), .load true 7 (.t 21), none, 1⟩,
 ⟨(some 6), .alloc [.pv (.int .i64 (0)), .pv (.bool false), .pv (.int .i64 (0)), .pv (.str []), .pv (.int .i64 (0)), .pv (.int .i64 (0)), .pv (.int .i64 (0))], none, 0⟩,
 ⟨none, .store 7 (.t 6) (.t 22), none, 7⟩] false)
 (.seq (.reg [⟨(some 23), .mv (.t 0), none, 0⟩,
 ⟨(some 24), .load true 7 (.t 6), none, 0⟩,
 ⟨(some 25), .call (.t 23) [.t 24], none, 3⟩,
 ⟨(some 26), .not (.t 25), none, 7⟩] false)
 (.cond (.t 26)
 (.ret)
 (.skip)))))
 (.reg [⟨(some 27), .bin .add (.t 19) (.c (.pv (.int .i64 (1)))), none, 0⟩,
 ⟨(some 19), .mv (.t 27), none, 1⟩] false)))))))))
 (.reg [⟨(some 28), .bin .add (.t 14) (.c (.pv (.int .i64 (1)))), none, 0⟩,
 ⟨(some 14), .mv (.t 28), none, 1⟩] false))))))⟩
def c_ref10_Key : RFn := ⟨1, 19, [.cell 2 true 7],
 .seq (.reg [⟨(some 1), .box 7 (.t 0), none, 0⟩,
 ⟨(some 2), .alloc [.pv (.int .i64 (0)), .pv (.bool false), .pv (.int .i64 (0)), .pv (.str []), .pv (.int .i64 (0)), .pv (.int .i64 (0)), .pv (.int .i64 (0))], none, 0⟩] false)
 (.seq (.reg [⟨(some 3), .faddr (.t 1) 1, none, 0⟩,
 ⟨none, .store 1 (.t 3) (.c (.pv (.bool false))), none, 1⟩] false)
 (.seq (.seq (.reg [⟨(some 4), .faddr (.t 1) 0, none, 0⟩,
 ⟨(some 5), .load false 1 (.t 4), none, 1⟩,
 ⟨(some 6), .bin .eql (.t 5) (.c (.pv (.int .i64 (4)))), none, 3⟩,
 ⟨(some 7), .mv (.t 6), none, 7⟩,
 ⟨(some 8), .load true 7 (.t 1), (some (7, true)), 15⟩,
 ⟨(some 9), .call (.f n_ref10_ToInt) [.t 8], (some (7, true)), 31⟩,
 ⟨(some 10), .field false 2 1 (.t 9), (some (7, true)), 63⟩,
 ⟨(some 11), .bin .mul (.t 10) (.c (.pv (.int .i64 (65536)))), (some (7, true)), 127⟩,
 ⟨(some 12), .faddr (.t 1) 2, (some (7, true)), 15⟩,
 ⟨(some 13), .load false 1 (.t 12), (some (7, true)), 271⟩,
 ⟨(some 14), .bin .eql (.t 11) (.t 13), (some (7, true)), 1023⟩,
 ⟨(some 15), .pick (.t 7) (.t 14) (.c (.pv (.bool false))), none, 2047⟩] true)
 (.cond (.t 15)
 (.seq (.reg [⟨(some 16), .load true 7 (.t 1), none, 0⟩,
 ⟨(some 17), .call (.f n_ref10_ToInt) [.t 16], none, 1⟩,
 ⟨none, .store 7 (.t 2) (.t 17), none, 3⟩] false)
 (.ret))
 (.skip)))
 (.seq (.reg [⟨(some 18), .load true 7 (.t 1), none, 0⟩,
 ⟨none, .store 7 (.t 2) (.t 18), none, 1⟩] false)
 (.ret))))⟩
def c_slices_Contains_int : RFn := ⟨2, 9, [.tmp 4],
 .seq (.reg [⟨(some 4), .mv (.c (.pv (.bool false))), none, 0⟩] false)
 (.seq (.reg [⟨(some 5), .mv (.t 0), none, 0⟩,
 ⟨(some 6), .mv (.t 1), none, 0⟩,
 ⟨(some 7), .call (.f n_slices_Index_int) [.t 5, .t 6], none, 3⟩,
 ⟨(some 8), .bin .geq (.t 7) (.c (.pv (.int .i64 (0)))), none, 7⟩,
 ⟨(some 4), .mv (.t 8), none, 15⟩] false)
 (.ret))⟩
def c_object_ToInt : RFn := ⟨1, 20, [.cell 2 true 7, .tmp 3],
 .seq (.reg [⟨(some 1), .box 7 (.t 0), none, 0⟩,
 ⟨(some 2), .alloc [.pv (.int .i64 (0)), .pv (.bool false), .pv (.int .i64 (0)), .pv (.str []), .pv (.int .i64 (0)), .pv (.int .i64 (0)), .pv (.int .i64 (0))], none, 0⟩,
 ⟨(some 3), .mv (.c (.pv (.int .i64 (0)))), none, 0⟩] false)
 (.seq (.reg [⟨(some 7), .load true 7 (.t 1), none, 0⟩,
 ⟨(some 8), .call (.f n_object_Value) [.t 7], none, 1⟩,
 ⟨(some 6), .mv (.t 8), none, 3⟩,
 ⟨(some 9), .extract (.t 6) 0, none, 7⟩,
 ⟨(some 10), .extract (.t 6) 1, none, 7⟩,
 ⟨(some 4), .mv (.t 9), none, 15⟩,
 ⟨(some 5), .mv (.t 10), none, 63⟩] false)
 (.seq (.seq (.reg [⟨(some 11), .mv (.t 5), none, 0⟩,
 ⟨(some 12), .bin .neq (.t 11) (.c (.pv (.int .i64 (0)))), none, 1⟩] false)
 (.cond (.t 12)
 (.seq (.reg [⟨(some 13), .build [.pv (.int .i64 (0)), .pv (.bool false), .pv (.int .i64 (0)), .pv (.str []), .pv (.int .i64 (0)), .pv (.int .i64 (0)), .pv (.int .i64 (0))] [], none, 0⟩,
 ⟨(some 14), .mv (.t 5), none, 0⟩,
 ⟨none, .store 7 (.t 2) (.t 13), none, 1⟩,
 ⟨(some 3), .mv (.t 14), none, 7⟩] false)
 (.ret))
 (.skip)))
 (.seq (.reg [⟨(some 15), .mv (.t 4), none, 0⟩,
 ⟨(some 16), .bin .quo (.t 15) (.c (.pv (.int .i64 (65536)))), none, 1⟩,
 ⟨(some 17), .call (.f n_object_Int) [.t 16], none, 3⟩,
 ⟨(some 18), .extract (.t 17) 0, none, 7⟩,
 ⟨(some 19), .extract (.t 17) 1, none, 7⟩,
 ⟨none, .store 7 (.t 2) (.t 18), none, 31⟩,
 ⟨(some 3), .mv (.t 19), none, 63⟩] false)
 (.ret))))⟩
def c_object_made_string : RFn := ⟨2, 15, [.cell 4 true 7, .tmp 5],
 .seq (.reg [⟨(some 4), .alloc [.pv (.int .i64 (0)), .pv (.bool false), .pv (.int .i64 (0)), .pv (.str []), .pv (.int .i64 (0)), .pv (.int .i64 (0)), .pv (.int .i64 (0))], none, 0⟩,
 ⟨(some 5), .mv (.c (.pv (.int .i64 (0)))), none, 0⟩] false)
 (.seq (.reg [⟨(some 7), .mv (.t 1), none, 0⟩,
 ⟨(some 8), .mv (.t 0), none, 0⟩,
 ⟨(some 9), .call (.t 7) [.t 8], none, 3⟩,
 ⟨(some 6), .alloc [.pv (.int .i64 (0)), .pv (.bool false), .pv (.int .i64 (0)), .pv (.str []), .pv (.int .i64 (0)), .pv (.int .i64 (0)), .pv (.int .i64 (0))], none, 0⟩,
 ⟨none, .store 7 (.t 6) (.t 9), none, 15⟩] false)
 (.seq (.seq (.reg [⟨(some 10), .load true 7 (.t 6), none, 0⟩,
 ⟨(some 11), .call (.f n_object_Check) [.t 10], none, 1⟩,
 ⟨(some 12), .bin .neq (.t 11) (.c (.pv (.int .i64 (0)))), none, 3⟩] false)
 (.cond (.t 12)
 (.seq (.reg [⟨(some 13), .build [.pv (.int .i64 (0)), .pv (.bool false), .pv (.int .i64 (0)), .pv (.str []), .pv (.int .i64 (0)), .pv (.int .i64 (0)), .pv (.int .i64 (0))] [], none, 0⟩,
 ⟨none, .store 7 (.t 4) (.t 13), none, 1⟩,
 ⟨(some 5), .mv (.c (.pv (.int .i64 (2)))), none, 3⟩] false)
 (.ret))
 (.skip)))
 (.seq (.reg [⟨(some 14), .load true 7 (.t 6), none, 0⟩,
 ⟨none, .store 7 (.t 4) (.t 14), none, 1⟩,
 ⟨(some 5), .mv (.c (.pv (.int .i64 (0)))), none, 3⟩] false)
 (.ret))))⟩
def c_object_Name_1 : RFn := ⟨2, 7, [.cell 3 true 7],
 .seq (.reg [⟨(some 3), .alloc [.pv (.int .i64 (0)), .pv (.bool false), .pv (.int .i64 (0)), .pv (.str []), .pv (.int .i64 (0)), .pv (.int .i64 (0)), .pv (.int .i64 (0))], none, 0⟩] false)
 (.seq (.reg [⟨(some 4), .mv (.t 0), none, 0⟩,
 ⟨(some 5), .load false 1 (.t 1), none, 0⟩,
 ⟨(some 6), .build [.pv (.int .i64 (0)), .pv (.bool false), .pv (.int .i64 (0)), .pv (.str []), .pv (.int .i64 (0)), .pv (.int .i64 (0)), .pv (.int .i64 (0))] [(0, 1, .c (.pv (.int .i64 (5)))), (3, 1, .t 4), (1, 1, .t 5)], none, 3⟩,
 ⟨none, .store 7 (.t 3) (.t 6), none, 7⟩] false)
 (.ret))⟩
def c_object_kind_longest : RFn := ⟨1, 7, [.tmp 2],
 .seq (.reg [⟨(some 1), .box 6 (.t 0), none, 0⟩,
 ⟨(some 2), .mv (.c (.pv (.int .i64 (0)))), none, 0⟩] false)
 (.seq (.reg [⟨(some 3), .build [.pv (.int .i64 (0)), .pv (.int .i64 (0)), .pv (.int .i64 (0)), .pv (.int .i64 (0))] [(0, 1, .c (.pv (.int .i64 (0)))), (1, 1, .c (.pv (.int .i64 (1000)))), (2, 1, .c (.pv (.int .i64 (1000)))), (3, 1, .c (.pv (.int .i64 (0))))], none, 0⟩,
 ⟨(some 4), .faddr (.t 1) 5, none, 0⟩,
 ⟨(some 5), .load false 1 (.t 4), none, 2⟩,
 ⟨(some 6), .index false 4 1 (.t 3) (.t 5), none, 7⟩,
 ⟨(some 2), .mv (.t 6), none, 15⟩] false)
 (.ret))⟩
def c_object_numberOf : RFn := ⟨1, 22, [.cell 2 true 7, .tmp 3],
 .seq (.reg [⟨(some 1), .box 7 (.t 0), none, 0⟩,
 ⟨(some 2), .alloc [.pv (.int .i64 (0)), .pv (.bool false), .pv (.int .i64 (0)), .pv (.str []), .pv (.int .i64 (0)), .pv (.int .i64 (0)), .pv (.int .i64 (0))], none, 0⟩,
 ⟨(some 3), .mv (.c (.pv (.int .i64 (0)))), none, 0⟩] false)
 (.seq (.seq (.reg [⟨(some 5), .load true 7 (.t 1), none, 0⟩,
 ⟨(some 6), .call (.f n_object_Check) [.t 5], none, 1⟩,
 ⟨(some 4), .mv (.t 6), none, 3⟩] false)
 (.seq (.reg [⟨(some 7), .mv (.t 4), none, 0⟩,
 ⟨(some 8), .bin .neq (.t 7) (.c (.pv (.int .i64 (0)))), none, 1⟩] false)
 (.cond (.t 8)
 (.seq (.reg [⟨(some 9), .build [.pv (.int .i64 (0)), .pv (.bool false), .pv (.int .i64 (0)), .pv (.str []), .pv (.int .i64 (0)), .pv (.int .i64 (0)), .pv (.int .i64 (0))] [], none, 0⟩,
 ⟨(some 10), .mv (.t 4), none, 0⟩,
 ⟨none, .store 7 (.t 2) (.t 9), none, 1⟩,
 ⟨(some 3), .mv (.t 10), none, 7⟩] false)
 (.ret))
 (.skip))))
 (.seq (.seq (.reg [⟨(some 11), .faddr (.t 1) 0, none, 0⟩,
 ⟨(some 12), .load false 1 (.t 11), none, 1⟩,
 ⟨(some 13), .bin .neq (.t 12) (.c (.pv (.int .i64 (3)))), none, 3⟩,
 ⟨(some 14), .mv (.t 13), none, 7⟩,
 ⟨(some 15), .faddr (.t 1) 0, (some (14, true)), 15⟩,
 ⟨(some 16), .load false 1 (.t 15), (some (14, true)), 31⟩,
 ⟨(some 17), .bin .neq (.t 16) (.c (.pv (.int .i64 (4)))), (some (14, true)), 63⟩,
 ⟨(some 18), .pick (.t 14) (.t 17) (.c (.pv (.bool false))), none, 127⟩] false)
 (.cond (.t 18)
 (.seq (.reg [⟨(some 19), .build [.pv (.int .i64 (0)), .pv (.bool false), .pv (.int .i64 (0)), .pv (.str []), .pv (.int .i64 (0)), .pv (.int .i64 (0)), .pv (.int .i64 (0))] [], none, 0⟩,
 ⟨none, .store 7 (.t 2) (.t 19), none, 1⟩,
 ⟨(some 3), .mv (.c (.pv (.int .i64 (22)))), none, 3⟩] false)
 (.ret))
 (.skip)))
 (.seq (.reg [⟨(some 20), .load true 7 (.t 1), none, 0⟩,
 ⟨(some 21), .build [.pv (.int .i64 (0)), .pv (.bool false), .pv (.int .i64 (0)), .pv (.str []), .pv (.int .i64 (0)), .pv (.int .i64 (0)), .pv (.int .i64 (0))] [(0, 7, .t 20)], none, 1⟩,
 ⟨none, .store 7 (.t 2) (.t 21), none, 3⟩,
 ⟨(some 3), .mv (.c (.pv (.int .i64 (0)))), none, 7⟩] false)
 (.ret))))⟩
def c_object_number_value : RFn := ⟨1, 14, [.tmp 2],
 .seq (.reg [⟨(some 1), .box 7 (.t 0), none, 0⟩,
 ⟨(some 2), .mv (.c (.pv (.int .i64 (0)))), none, 0⟩] false)
 (.seq (.seq (.reg [⟨(some 3), .faddr (.t 1) 0, none, 0⟩,
 ⟨(some 4), .faddr (.t 3) 0, none, 1⟩,
 ⟨(some 5), .load false 1 (.t 4), none, 3⟩,
 ⟨(some 6), .bin .eql (.t 5) (.c (.pv (.int .i64 (3)))), none, 7⟩] false)
 (.cond (.t 6)
 (.seq (.reg [⟨(some 7), .faddr (.t 1) 0, none, 0⟩,
 ⟨(some 8), .faddr (.t 7) 2, none, 1⟩,
 ⟨(some 9), .load false 1 (.t 8), none, 3⟩,
 ⟨(some 10), .bin .mul (.t 9) (.c (.pv (.int .i64 (65536)))), none, 7⟩,
 ⟨(some 2), .mv (.t 10), none, 15⟩] false)
 (.ret))
 (.skip)))
 (.seq (.reg [⟨(some 11), .faddr (.t 1) 0, none, 0⟩,
 ⟨(some 12), .faddr (.t 11) 2, none, 1⟩,
 ⟨(some 13), .load false 1 (.t 12), none, 3⟩,
 ⟨(some 2), .mv (.t 13), none, 7⟩] false)
 (.ret)))⟩
def c_ref10_ToInt : RFn := ⟨1, 16, [.cell 2 true 7],
 .seq (.reg [⟨(some 1), .box 7 (.t 0), none, 0⟩,
 ⟨(some 2), .alloc [.pv (.int .i64 (0)), .pv (.bool false), .pv (.int .i64 (0)), .pv (.str []), .pv (.int .i64 (0)), .pv (.int .i64 (0)), .pv (.int .i64 (0))], none, 0⟩] false)
 (.seq (.reg [⟨(some 4), .load true 7 (.t 1), none, 0⟩,
 ⟨(some 5), .call (.f n_ref10_Value) [.t 4], none, 1⟩,
 ⟨(some 3), .mv (.t 5), none, 3⟩] false)
 (.seq (.seq (.reg [⟨(some 6), .mv (.t 3), none, 0⟩,
 ⟨(some 7), .bin .lss (.t 6) (.c (.pv (.int .i64 (0)))), none, 1⟩] false)
 (.cond (.t 7)
 (.seq (.reg [⟨(some 8), .mv (.t 3), none, 0⟩,
 ⟨(some 9), .neg (.t 8), none, 1⟩,
 ⟨(some 10), .bin .quo (.t 9) (.c (.pv (.int .i64 (65536)))), none, 3⟩,
 ⟨(some 11), .neg (.t 10), none, 7⟩,
 ⟨(some 12), .call (.f n_ref10_Int) [.t 11], none, 15⟩,
 ⟨none, .store 7 (.t 2) (.t 12), none, 31⟩] false)
 (.ret))
 (.skip)))
 (.seq (.reg [⟨(some 13), .mv (.t 3), none, 0⟩,
 ⟨(some 14), .bin .quo (.t 13) (.c (.pv (.int .i64 (65536)))), none, 1⟩,
 ⟨(some 15), .call (.f n_ref10_Int) [.t 14], none, 3⟩,
 ⟨none, .store 7 (.t 2) (.t 15), none, 7⟩] false)
 (.ret))))⟩
def c_slices_Index_int : RFn := ⟨2, 19, [.tmp 4],
 .seq (.reg [⟨(some 4), .mv (.c (.pv (.int .i64 (0)))), none, 0⟩] false)
 (.seq (.seq (.reg [⟨(some 6), .mv (.t 0), none, 0⟩,
 ⟨(some 7), .slen (.t 6), none, 1⟩,
 ⟨(some 8), .mv (.c (.pv (.int .i64 (0)))), none, 0⟩] false)
 (.block 0
 (.loop [0, 1, 7, 8]
 (.seq (.reg [⟨(some 9), .bin .lss (.t 8) (.t 7), none, 0⟩] false)
 (.seq (.cond (.t 9)
 (.skip)
 (.exit 0))
 (.seq (.block 1
 (.seq (.reg [⟨(some 10), .mv (.t 8), none, 0⟩,
 ⟨(some 5), .mv (.t 10), none, 1⟩] false)
 (.seq (.reg [⟨(some 11), .mv (.t 1), none, 0⟩,
 ⟨(some 12), .mv (.t 0), none, 0⟩,
 ⟨(some 13), .mv (.t 5), none, 0⟩,
 ⟨(some 14), .iaddr 1 (.t 12) (.t 13), none, 6⟩,
 ⟨(some 15), .load false 1 (.t 14), none, 14⟩,
 ⟨(some 16), .bin .eql (.t 11) (.t 15), none, 31⟩] false)
 (.cond (.t 16)
 (.seq (.reg [⟨(some 17), .mv (.t 5), none, 0⟩,
 ⟨(some 4), .mv (.t 17), none, 1⟩] false)
 (.ret))
 (.skip)))))
 (.reg [⟨(some 18), .bin .add (.t 8) (.c (.pv (.int .i64 (1)))), none, 0⟩,
 ⟨(some 8), .mv (.t 18), none, 1⟩] false)))))))
 (.seq (.reg [⟨(some 4), .mv (.c (.pv (.int .i64 (-1)))), none, 0⟩] false)
 (.ret)))⟩
def c_object_Int : RFn := ⟨1, 8, [.cell 2 true 7, .tmp 3],
 .seq (.reg [⟨(some 2), .alloc [.pv (.int .i64 (0)), .pv (.bool false), .pv (.int .i64 (0)), .pv (.str []), .pv (.int .i64 (0)), .pv (.int .i64 (0)), .pv (.int .i64 (0))], none, 0⟩,
 ⟨(some 3), .mv (.c (.pv (.int .i64 (0)))), none, 0⟩] false)
 (.seq (.reg [⟨(some 4), .mv (.t 0), none, 0⟩,
 ⟨(some 5), .call (.f n_object_made_int) [.t 4, .f n_object_Int_1], none, 1⟩,
 ⟨(some 6), .extract (.t 5) 0, none, 3⟩,
 ⟨(some 7), .extract (.t 5) 1, none, 3⟩,
 ⟨none, .store 7 (.t 2) (.t 6), none, 15⟩,
 ⟨(some 3), .mv (.t 7), none, 31⟩] false)
 (.ret))⟩
def c_object_made_int : RFn := ⟨2, 15, [.cell 4 true 7, .tmp 5],
 .seq (.reg [⟨(some 4), .alloc [.pv (.int .i64 (0)), .pv (.bool false), .pv (.int .i64 (0)), .pv (.str []), .pv (.int .i64 (0)), .pv (.int .i64 (0)), .pv (.int .i64 (0))], none, 0⟩,
 ⟨(some 5), .mv (.c (.pv (.int .i64 (0)))), none, 0⟩] false)
 (.seq (.reg [⟨(some 7), .mv (.t 1), none, 0⟩,
 ⟨(some 8), .mv (.t 0), none, 0⟩,
 ⟨(some 9), .call (.t 7) [.t 8], none, 3⟩,
 ⟨(some 6), .alloc [.pv (.int .i64 (0)), .pv (.bool false), .pv (.int .i64 (0)), .pv (.str []), .pv (.int .i64 (0)), .pv (.int .i64 (0)), .pv (.int .i64 (0))], none, 0⟩,
 ⟨none, .store 7 (.t 6) (.t 9), none, 15⟩] false)
 (.seq (.seq (.reg [⟨(some 10), .load true 7 (.t 6), none, 0⟩,
 ⟨(some 11), .call (.f n_object_Check) [.t 10], none, 1⟩,
 ⟨(some 12), .bin .neq (.t 11) (.c (.pv (.int .i64 (0)))), none, 3⟩] false)
 (.cond (.t 12)
 (.seq (.reg [⟨(some 13), .build [.pv (.int .i64 (0)), .pv (.bool false), .pv (.int .i64 (0)), .pv (.str []), .pv (.int .i64 (0)), .pv (.int .i64 (0)), .pv (.int .i64 (0))] [], none, 0⟩,
 ⟨none, .store 7 (.t 4) (.t 13), none, 1⟩,
 ⟨(some 5), .mv (.c (.pv (.int .i64 (2)))), none, 3⟩] false)
 (.ret))
 (.skip)))
 (.seq (.reg [⟨(some 14), .load true 7 (.t 6), none, 0⟩,
 ⟨none, .store 7 (.t 4) (.t 14), none, 1⟩,
 ⟨(some 5), .mv (.c (.pv (.int .i64 (0)))), none, 3⟩] false)
 (.ret))))⟩
def c_object_Int_1 : RFn := ⟨1, 5, [.cell 2 true 7],
 .seq (.reg [⟨(some 2), .alloc [.pv (.int .i64 (0)), .pv (.bool false), .pv (.int .i64 (0)), .pv (.str []), .pv (.int .i64 (0)), .pv (.int .i64 (0)), .pv (.int .i64 (0))], none, 0⟩] false)
 (.seq (.reg [⟨(some 3), .mv (.t 0), none, 0⟩,
 ⟨(some 4), .build [.pv (.int .i64 (0)), .pv (.bool false), .pv (.int .i64 (0)), .pv (.str []), .pv (.int .i64 (0)), .pv (.int .i64 (0)), .pv (.int .i64 (0))] [(0, 1, .c (.pv (.int .i64 (3)))), (2, 1, .t 3)], none, 1⟩,
 ⟨none, .store 7 (.t 2) (.t 4), none, 3⟩] false)
 (.ret))⟩
end Go.Ab.Td
