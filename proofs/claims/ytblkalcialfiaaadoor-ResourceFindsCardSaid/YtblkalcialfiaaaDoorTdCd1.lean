/- The code of functions of the program, printed by a program. Under: nothing. -/
import Derived.Test.YtblkalcialfiaaaDoorTdCd0
namespace Go.Ab.Td
open Go.Ab
def c_resource_library_asked : RFn := ⟨2, 88, [.cell 4 true 29, .tmp 5],
 .seq (.reg [⟨(some 2), .box 67 (.t 0), none, 0⟩,
 ⟨(some 4), .alloc [.pv (.int .i64 (0)), .pv (.bool false), .pv (.int .i64 (0)), .pv (.str []), .pv (.int .i64 (0)), .pv (.int .i64 (0)), .pv (.int .i64 (0)), .pv (.int .i64 (0)), .pv (.bool false), .pv (.int .i64 (0)), .pv (.str []), .pv (.int .i64 (0)), .pv (.int .i64 (0)), .pv (.int .i64 (0)), .pv (.int .i64 (0)), .pv (.bool false), .pv (.int .i64 (0)), .pv (.str []), .pv (.int .i64 (0)), .pv (.int .i64 (0)), .pv (.int .i64 (0)), .pv (.int .i64 (0)), .pv (.bool false), .pv (.int .i64 (0)), .pv (.str []), .pv (.int .i64 (0)), .pv (.int .i64 (0)), .pv (.int .i64 (0)), .pv (.int .i64 (0))], none, 0⟩,
 ⟨(some 5), .mv (.c (.pv (.int .i64 (0)))), none, 0⟩] false)
 (.seq (.reg [⟨(some 11), .faddr (.t 2) 0, none, 0⟩,
 ⟨(some 12), .load true 67 (.t 11), none, 1⟩,
 ⟨(some 13), .mv (.t 1), none, 0⟩,
 ⟨(some 14), .call (.f n_stack_Top) [.t 12, .t 13], none, 7⟩,
 ⟨(some 10), .mv (.t 14), none, 15⟩,
 ⟨(some 15), .extract (.t 10) 0, none, 31⟩,
 ⟨(some 16), .extract (.t 10) 1, none, 31⟩,
 ⟨(some 6), .mv (.t 15), none, 63⟩,
 ⟨(some 7), .mv (.t 16), none, 255⟩] false)
 (.seq (.seq (.reg [⟨(some 17), .mv (.t 7), none, 0⟩,
 ⟨(some 18), .bin .neq (.t 17) (.c (.pv (.int .i64 (0)))), none, 1⟩] false)
 (.cond (.t 18)
 (.seq (.reg [⟨(some 19), .build [.pv (.int .i64 (0)), .pv (.bool false), .pv (.int .i64 (0)), .pv (.str []), .pv (.int .i64 (0)), .pv (.int .i64 (0)), .pv (.int .i64 (0)), .pv (.int .i64 (0)), .pv (.bool false), .pv (.int .i64 (0)), .pv (.str []), .pv (.int .i64 (0)), .pv (.int .i64 (0)), .pv (.int .i64 (0)), .pv (.int .i64 (0)), .pv (.bool false), .pv (.int .i64 (0)), .pv (.str []), .pv (.int .i64 (0)), .pv (.int .i64 (0)), .pv (.int .i64 (0)), .pv (.int .i64 (0)), .pv (.bool false), .pv (.int .i64 (0)), .pv (.str []), .pv (.int .i64 (0)), .pv (.int .i64 (0)), .pv (.int .i64 (0)), .pv (.int .i64 (0))] [], none, 0⟩,
 ⟨(some 20), .mv (.t 7), none, 0⟩,
 ⟨none, .store 29 (.t 4) (.t 19), none, 1⟩,
 ⟨(some 5), .mv (.t 20), none, 7⟩] false)
 (.ret))
 (.skip)))
 (.seq (.reg [⟨(some 21), .mv (.t 6), none, 0⟩,
 ⟨(some 22), .mv (.t 1), none, 0⟩,
 ⟨(some 23), .bin .sub (.t 22) (.c (.pv (.int .i64 (1)))), none, 2⟩,
 ⟨(some 24), .iaddr 7 (.t 21) (.t 23), none, 7⟩,
 ⟨(some 25), .load true 7 (.t 24), none, 15⟩,
 ⟨(some 8), .alloc [.pv (.int .i64 (0)), .pv (.bool false), .pv (.int .i64 (0)), .pv (.str []), .pv (.int .i64 (0)), .pv (.int .i64 (0)), .pv (.int .i64 (0))], none, 0⟩,
 ⟨none, .store 7 (.t 8) (.t 25), none, 63⟩] false)
 (.seq (.seq (.reg [⟨(some 26), .mv (.t 6), none, 0⟩,
 ⟨(some 27), .iaddr 7 (.t 26) (.c (.pv (.int .i64 (0)))), none, 1⟩,
 ⟨(some 28), .faddr (.t 27) 0, none, 3⟩,
 ⟨(some 29), .load false 1 (.t 28), none, 7⟩,
 ⟨(some 30), .bin .eql (.t 29) (.c (.pv (.int .i64 (0)))), none, 15⟩,
 ⟨(some 31), .mv (.t 30), none, 31⟩,
 ⟨(some 32), .faddr (.t 8) 0, (some (31, false)), 63⟩,
 ⟨(some 33), .load false 1 (.t 32), (some (31, false)), 127⟩,
 ⟨(some 34), .bin .neq (.t 33) (.c (.pv (.int .i64 (5)))), (some (31, false)), 255⟩,
 ⟨(some 35), .mv (.t 34), (some (31, false)), 511⟩,
 ⟨(some 36), .faddr (.t 8) 0, (some (35, true)), 1023⟩,
 ⟨(some 37), .load false 1 (.t 36), (some (35, true)), 2047⟩,
 ⟨(some 38), .bin .neq (.t 37) (.c (.pv (.int .i64 (6)))), (some (35, true)), 4095⟩,
 ⟨(some 39), .pick (.t 35) (.t 38) (.c (.pv (.bool false))), (some (31, false)), 8191⟩,
 ⟨(some 40), .pick (.t 31) (.c (.pv (.bool true))) (.t 39), none, 16383⟩] false)
 (.cond (.t 40)
 (.seq (.reg [⟨(some 41), .build [.pv (.int .i64 (0)), .pv (.bool false), .pv (.int .i64 (0)), .pv (.str []), .pv (.int .i64 (0)), .pv (.int .i64 (0)), .pv (.int .i64 (0)), .pv (.int .i64 (0)), .pv (.bool false), .pv (.int .i64 (0)), .pv (.str []), .pv (.int .i64 (0)), .pv (.int .i64 (0)), .pv (.int .i64 (0)), .pv (.int .i64 (0)), .pv (.bool false), .pv (.int .i64 (0)), .pv (.str []), .pv (.int .i64 (0)), .pv (.int .i64 (0)), .pv (.int .i64 (0)), .pv (.int .i64 (0)), .pv (.bool false), .pv (.int .i64 (0)), .pv (.str []), .pv (.int .i64 (0)), .pv (.int .i64 (0)), .pv (.int .i64 (0)), .pv (.int .i64 (0))] [], none, 0⟩,
 ⟨none, .store 29 (.t 4) (.t 41), none, 1⟩,
 ⟨(some 5), .mv (.c (.pv (.int .i64 (22)))), none, 3⟩] false)
 (.ret))
 (.skip)))
 (.seq (.reg [⟨(some 42), .mv (.t 6), none, 0⟩,
 ⟨(some 43), .iaddr 7 (.t 42) (.c (.pv (.int .i64 (1)))), none, 1⟩,
 ⟨(some 44), .load true 7 (.t 43), none, 3⟩,
 ⟨(some 45), .mv (.t 1), none, 0⟩,
 ⟨(some 46), .build [.pv (.int .i64 (0)), .pv (.bool false), .pv (.int .i64 (0)), .pv (.str []), .pv (.int .i64 (0)), .pv (.int .i64 (0)), .pv (.int .i64 (0)), .pv (.int .i64 (0)), .pv (.bool false), .pv (.int .i64 (0)), .pv (.str []), .pv (.int .i64 (0)), .pv (.int .i64 (0)), .pv (.int .i64 (0)), .pv (.int .i64 (0)), .pv (.bool false), .pv (.int .i64 (0)), .pv (.str []), .pv (.int .i64 (0)), .pv (.int .i64 (0)), .pv (.int .i64 (0)), .pv (.int .i64 (0)), .pv (.bool false), .pv (.int .i64 (0)), .pv (.str []), .pv (.int .i64 (0)), .pv (.int .i64 (0)), .pv (.int .i64 (0)), .pv (.int .i64 (0))] [(7, 7, .t 44), (28, 1, .t 45)], none, 15⟩,
 ⟨(some 9), .alloc [.pv (.int .i64 (0)), .pv (.bool false), .pv (.int .i64 (0)), .pv (.str []), .pv (.int .i64 (0)), .pv (.int .i64 (0)), .pv (.int .i64 (0)), .pv (.int .i64 (0)), .pv (.bool false), .pv (.int .i64 (0)), .pv (.str []), .pv (.int .i64 (0)), .pv (.int .i64 (0)), .pv (.int .i64 (0)), .pv (.int .i64 (0)), .pv (.bool false), .pv (.int .i64 (0)), .pv (.str []), .pv (.int .i64 (0)), .pv (.int .i64 (0)), .pv (.int .i64 (0)), .pv (.int .i64 (0)), .pv (.bool false), .pv (.int .i64 (0)), .pv (.str []), .pv (.int .i64 (0)), .pv (.int .i64 (0)), .pv (.int .i64 (0)), .pv (.int .i64 (0))], none, 0⟩,
 ⟨none, .store 29 (.t 9) (.t 46), none, 63⟩] false)
 (.seq (.seq (.reg [⟨(some 48), .faddr (.t 2) 0, none, 0⟩,
 ⟨(some 49), .faddr (.t 48) 2, none, 1⟩,
 ⟨(some 50), .load false 1 (.t 49), none, 3⟩,
 ⟨(some 51), .mv (.t 6), none, 0⟩,
 ⟨(some 52), .iaddr 7 (.t 51) (.c (.pv (.int .i64 (0)))), none, 8⟩,
 ⟨(some 53), .load true 7 (.t 52), none, 24⟩,
 ⟨(some 54), .call (.f n_heap_Key) [.t 50, .t 53], none, 63⟩,
 ⟨(some 47), .mv (.t 54), none, 127⟩,
 ⟨(some 55), .extract (.t 47) 0, none, 255⟩,
 ⟨(some 56), .extract (.t 47) 1, none, 255⟩,
 ⟨(some 57), .faddr (.t 9) 0, none, 511⟩,
 ⟨none, .store 7 (.t 57) (.t 55), none, 1535⟩,
 ⟨(some 7), .mv (.t 56), none, 4095⟩] true)
 (.seq (.reg [⟨(some 58), .mv (.t 7), none, 0⟩,
 ⟨(some 59), .bin .neq (.t 58) (.c (.pv (.int .i64 (0)))), none, 1⟩] false)
 (.cond (.t 59)
 (.seq (.reg [⟨(some 60), .build [.pv (.int .i64 (0)), .pv (.bool false), .pv (.int .i64 (0)), .pv (.str []), .pv (.int .i64 (0)), .pv (.int .i64 (0)), .pv (.int .i64 (0)), .pv (.int .i64 (0)), .pv (.bool false), .pv (.int .i64 (0)), .pv (.str []), .pv (.int .i64 (0)), .pv (.int .i64 (0)), .pv (.int .i64 (0)), .pv (.int .i64 (0)), .pv (.bool false), .pv (.int .i64 (0)), .pv (.str []), .pv (.int .i64 (0)), .pv (.int .i64 (0)), .pv (.int .i64 (0)), .pv (.int .i64 (0)), .pv (.bool false), .pv (.int .i64 (0)), .pv (.str []), .pv (.int .i64 (0)), .pv (.int .i64 (0)), .pv (.int .i64 (0)), .pv (.int .i64 (0))] [], none, 0⟩,
 ⟨(some 61), .mv (.t 7), none, 0⟩,
 ⟨none, .store 29 (.t 4) (.t 60), none, 1⟩,
 ⟨(some 5), .mv (.t 61), none, 7⟩] false)
 (.ret))
 (.skip))))
 (.seq (.seq (.reg [⟨(some 63), .faddr (.t 2) 0, none, 0⟩,
 ⟨(some 64), .faddr (.t 63) 2, none, 1⟩,
 ⟨(some 65), .load false 1 (.t 64), none, 3⟩,
 ⟨(some 66), .load true 7 (.t 8), none, 0⟩,
 ⟨(some 67), .call (.f n_heap_Key) [.t 65, .t 66], none, 15⟩,
 ⟨(some 62), .mv (.t 67), none, 31⟩,
 ⟨(some 68), .extract (.t 62) 0, none, 63⟩,
 ⟨(some 69), .extract (.t 62) 1, none, 63⟩,
 ⟨(some 70), .faddr (.t 9) 14, none, 127⟩,
 ⟨none, .store 7 (.t 70) (.t 68), none, 383⟩,
 ⟨(some 7), .mv (.t 69), none, 1023⟩] false)
 (.seq (.reg [⟨(some 71), .mv (.t 7), none, 0⟩,
 ⟨(some 72), .bin .neq (.t 71) (.c (.pv (.int .i64 (0)))), none, 1⟩] false)
 (.cond (.t 72)
 (.seq (.reg [⟨(some 73), .build [.pv (.int .i64 (0)), .pv (.bool false), .pv (.int .i64 (0)), .pv (.str []), .pv (.int .i64 (0)), .pv (.int .i64 (0)), .pv (.int .i64 (0)), .pv (.int .i64 (0)), .pv (.bool false), .pv (.int .i64 (0)), .pv (.str []), .pv (.int .i64 (0)), .pv (.int .i64 (0)), .pv (.int .i64 (0)), .pv (.int .i64 (0)), .pv (.bool false), .pv (.int .i64 (0)), .pv (.str []), .pv (.int .i64 (0)), .pv (.int .i64 (0)), .pv (.int .i64 (0)), .pv (.int .i64 (0)), .pv (.bool false), .pv (.int .i64 (0)), .pv (.str []), .pv (.int .i64 (0)), .pv (.int .i64 (0)), .pv (.int .i64 (0)), .pv (.int .i64 (0))] [], none, 0⟩,
 ⟨(some 74), .mv (.t 7), none, 0⟩,
 ⟨none, .store 29 (.t 4) (.t 73), none, 1⟩,
 ⟨(some 5), .mv (.t 74), none, 7⟩] false)
 (.ret))
 (.skip))))
 (.seq (.seq (.reg [⟨(some 76), .load true 67 (.t 2), none, 0⟩,
 ⟨(some 77), .faddr (.t 9) 14, none, 0⟩,
 ⟨(some 78), .load true 7 (.t 77), none, 2⟩,
 ⟨(some 79), .call (.f n_resource_library_dictionary) [.t 76, .t 78], none, 7⟩,
 ⟨(some 75), .mv (.t 79), none, 15⟩,
 ⟨(some 80), .extract (.t 75) 0, none, 31⟩,
 ⟨(some 81), .extract (.t 75) 1, none, 31⟩,
 ⟨(some 82), .faddr (.t 9) 21, none, 63⟩,
 ⟨none, .store 7 (.t 82) (.t 80), none, 191⟩,
 ⟨(some 7), .mv (.t 81), none, 511⟩] false)
 (.seq (.reg [⟨(some 83), .mv (.t 7), none, 0⟩,
 ⟨(some 84), .bin .neq (.t 83) (.c (.pv (.int .i64 (0)))), none, 1⟩] false)
 (.cond (.t 84)
 (.seq (.reg [⟨(some 85), .build [.pv (.int .i64 (0)), .pv (.bool false), .pv (.int .i64 (0)), .pv (.str []), .pv (.int .i64 (0)), .pv (.int .i64 (0)), .pv (.int .i64 (0)), .pv (.int .i64 (0)), .pv (.bool false), .pv (.int .i64 (0)), .pv (.str []), .pv (.int .i64 (0)), .pv (.int .i64 (0)), .pv (.int .i64 (0)), .pv (.int .i64 (0)), .pv (.bool false), .pv (.int .i64 (0)), .pv (.str []), .pv (.int .i64 (0)), .pv (.int .i64 (0)), .pv (.int .i64 (0)), .pv (.int .i64 (0)), .pv (.bool false), .pv (.int .i64 (0)), .pv (.str []), .pv (.int .i64 (0)), .pv (.int .i64 (0)), .pv (.int .i64 (0)), .pv (.int .i64 (0))] [], none, 0⟩,
 ⟨(some 86), .mv (.t 7), none, 0⟩,
 ⟨none, .store 29 (.t 4) (.t 85), none, 1⟩,
 ⟨(some 5), .mv (.t 86), none, 7⟩] false)
 (.ret))
 (.skip))))
 (.seq (.reg [⟨(some 87), .load true 29 (.t 9), none, 0⟩,
 ⟨none, .store 29 (.t 4) (.t 87), none, 1⟩,
 ⟨(some 5), .mv (.c (.pv (.int .i64 (0)))), none, 3⟩] false)
 (.ret))))))))))⟩
def c_resource_Do_1 : RFn := ⟨4, 8, [.tmp 6],
 .seq (.reg [⟨(some 4), .box 1 (.t 0), none, 0⟩,
 ⟨(some 5), .box 1 (.t 1), none, 0⟩,
 ⟨(some 6), .mv (.c (.pv .nilFunc)), none, 0⟩] false)
 (.seq (.reg [⟨(some 7), .mkf (.func n_resource_Do_1_1) [] [.t 2, .t 4, .t 3, .t 5], none, 0⟩,
 ⟨(some 6), .mv (.t 7), none, 1⟩] false)
 (.ret))⟩
def c_resource_Do_1_1 : RFn := ⟨4, 23, [.cell 4 true 67, .tmp 5],
 .seq (.reg [⟨(some 4), .alloc [.emp 7, .emp 7, .emp 7, .emp 3, .pv (.int .i64 (0)), .pv (.int .i64 (0)), .pv (.int .i64 (0)), .pv (.int .i64 (0)), .pv (.int .i64 (0)), .pv (.int .i64 (0)), .pv (.int .i64 (0)), .emp 7, .pv (.int .i64 (0)), .pv (.int .i64 (0)), .pv (.int .i64 (0)), .pv (.int .i64 (0)), .pv (.int .i64 (0)), .pv (.int .i64 (0)), .pv (.int .i64 (0)), .pv (.int .i64 (0)), .pv (.int .i64 (0)), .pv (.int .i64 (0)), .pv (.int .i64 (0)), .pv (.int .i64 (0)), .pv (.int .i64 (0)), .pv (.int .i64 (0)), .pv (.int .i64 (0)), .pv (.int .i64 (0)), .pv (.int .i64 (0)), .pv (.int .i64 (0)), .pv (.int .i64 (0)), .pv (.int .i64 (0)), .pv (.bool false), .pv (.bool false), .emp 47, .pv (.int .i64 (0)), .pv (.int .i64 (0)), .pv (.int .i64 (0)), .pv (.int .i64 (0)), .pv (.int .i64 (0)), .pv (.int .i64 (0)), .pv (.int .i64 (0)), .pv (.int .i64 (0)), .emp 1, .pv (.int .i64 (0)), .pv (.int .i64 (0)), .emp 2, .pv (.int .i64 (0)), .pv (.bool false), .pv (.int .i64 (0)), .pv (.str []), .pv (.int .i64 (0)), .pv (.int .i64 (0)), .pv (.int .i64 (0)), .pv (.int .i64 (0)), .pv (.int .i64 (0)), .pv (.int .i64 (0)), .pv (.int .i64 (0)), .pv (.int .i64 (0)), .pv (.int .i64 (0)), .pv (.int .i64 (0)), .pv (.int .i64 (0)), .emp 57, .emp 47, .emp 3, .pv (.str []), .pv (.int .i64 (0))], none, 0⟩,
 ⟨(some 5), .mv (.c (.pv (.int .i64 (0)))), none, 0⟩] false)
 (.seq (.reg [⟨(some 9), .load false 1 (.t 0), none, 0⟩,
 ⟨(some 10), .load false 1 (.t 1), none, 0⟩,
 ⟨(some 11), .call (.t 9) [.t 10], none, 3⟩,
 ⟨(some 8), .mv (.t 11), none, 7⟩,
 ⟨(some 12), .extract (.t 8) 0, none, 15⟩,
 ⟨(some 13), .extract (.t 8) 1, none, 15⟩,
 ⟨(some 6), .alloc [.pv (.int .i64 (0)), .pv (.bool false), .pv (.int .i64 (0)), .pv (.str []), .pv (.int .i64 (0)), .pv (.int .i64 (0)), .pv (.int .i64 (0)), .pv (.int .i64 (0)), .pv (.bool false), .pv (.int .i64 (0)), .pv (.str []), .pv (.int .i64 (0)), .pv (.int .i64 (0)), .pv (.int .i64 (0)), .pv (.int .i64 (0)), .pv (.bool false), .pv (.int .i64 (0)), .pv (.str []), .pv (.int .i64 (0)), .pv (.int .i64 (0)), .pv (.int .i64 (0)), .pv (.int .i64 (0)), .pv (.bool false), .pv (.int .i64 (0)), .pv (.str []), .pv (.int .i64 (0)), .pv (.int .i64 (0)), .pv (.int .i64 (0)), .pv (.int .i64 (0))], none, 0⟩,
 ⟨none, .store 29 (.t 6) (.t 12), none, 95⟩,
 ⟨(some 7), .mv (.t 13), none, 255⟩] false)
 (.seq (.seq (.reg [⟨(some 14), .mv (.t 7), none, 0⟩,
 ⟨(some 15), .bin .neq (.t 14) (.c (.pv (.int .i64 (0)))), none, 1⟩] false)
 (.cond (.t 15)
 (.seq (.reg [⟨(some 16), .load true 67 (.t 2), none, 0⟩,
 ⟨(some 17), .mv (.t 7), none, 0⟩,
 ⟨none, .store 67 (.t 4) (.t 16), none, 1⟩,
 ⟨(some 5), .mv (.t 17), none, 7⟩] false)
 (.ret))
 (.skip)))
 (.seq (.reg [⟨(some 18), .load false 1 (.t 3), none, 0⟩,
 ⟨(some 19), .load true 29 (.t 6), none, 0⟩,
 ⟨(some 20), .call (.t 18) [.t 19], none, 3⟩,
 ⟨(some 21), .extract (.t 20) 0, none, 7⟩,
 ⟨(some 22), .extract (.t 20) 1, none, 7⟩,
 ⟨none, .store 67 (.t 4) (.t 21), none, 31⟩,
 ⟨(some 5), .mv (.t 22), none, 63⟩] false)
 (.ret))))⟩
def c_resource_library_define : RFn := ⟨2, 44, [.cell 4 true 67, .tmp 5],
 .seq (.reg [⟨(some 2), .box 67 (.t 0), none, 0⟩,
 ⟨(some 3), .box 29 (.t 1), none, 0⟩,
 ⟨(some 4), .alloc [.emp 7, .emp 7, .emp 7, .emp 3, .pv (.int .i64 (0)), .pv (.int .i64 (0)), .pv (.int .i64 (0)), .pv (.int .i64 (0)), .pv (.int .i64 (0)), .pv (.int .i64 (0)), .pv (.int .i64 (0)), .emp 7, .pv (.int .i64 (0)), .pv (.int .i64 (0)), .pv (.int .i64 (0)), .pv (.int .i64 (0)), .pv (.int .i64 (0)), .pv (.int .i64 (0)), .pv (.int .i64 (0)), .pv (.int .i64 (0)), .pv (.int .i64 (0)), .pv (.int .i64 (0)), .pv (.int .i64 (0)), .pv (.int .i64 (0)), .pv (.int .i64 (0)), .pv (.int .i64 (0)), .pv (.int .i64 (0)), .pv (.int .i64 (0)), .pv (.int .i64 (0)), .pv (.int .i64 (0)), .pv (.int .i64 (0)), .pv (.int .i64 (0)), .pv (.bool false), .pv (.bool false), .emp 47, .pv (.int .i64 (0)), .pv (.int .i64 (0)), .pv (.int .i64 (0)), .pv (.int .i64 (0)), .pv (.int .i64 (0)), .pv (.int .i64 (0)), .pv (.int .i64 (0)), .pv (.int .i64 (0)), .emp 1, .pv (.int .i64 (0)), .pv (.int .i64 (0)), .emp 2, .pv (.int .i64 (0)), .pv (.bool false), .pv (.int .i64 (0)), .pv (.str []), .pv (.int .i64 (0)), .pv (.int .i64 (0)), .pv (.int .i64 (0)), .pv (.int .i64 (0)), .pv (.int .i64 (0)), .pv (.int .i64 (0)), .pv (.int .i64 (0)), .pv (.int .i64 (0)), .pv (.int .i64 (0)), .pv (.int .i64 (0)), .pv (.int .i64 (0)), .emp 57, .emp 47, .emp 3, .pv (.str []), .pv (.int .i64 (0))], none, 0⟩,
 ⟨(some 5), .mv (.c (.pv (.int .i64 (0)))), none, 0⟩] false)
 (.seq (.seq (.reg [⟨(some 8), .faddr (.t 3) 14, none, 0⟩,
 ⟨(some 9), .faddr (.t 8) 3, none, 1⟩,
 ⟨(some 10), .load false 1 (.t 9), none, 3⟩,
 ⟨(some 11), .faddr (.t 3) 7, none, 0⟩,
 ⟨(some 12), .load true 7 (.t 11), none, 8⟩,
 ⟨(some 13), .call (.f n_resource_suits) [.t 10, .t 12], none, 31⟩,
 ⟨(some 14), .not (.t 13), none, 63⟩] false)
 (.cond (.t 14)
 (.seq (.reg [⟨(some 15), .faddr (.t 2) 0, none, 0⟩,
 ⟨(some 16), .load true 67 (.t 15), none, 1⟩,
 ⟨none, .store 67 (.t 4) (.t 16), none, 3⟩,
 ⟨(some 5), .mv (.c (.pv (.int .i64 (22)))), none, 7⟩] false)
 (.ret))
 (.skip)))
 (.seq (.reg [⟨(some 18), .faddr (.t 2) 0, none, 0⟩,
 ⟨(some 19), .faddr (.t 18) 2, none, 1⟩,
 ⟨(some 20), .load false 1 (.t 19), none, 3⟩,
 ⟨(some 21), .faddr (.t 3) 21, none, 0⟩,
 ⟨(some 22), .load true 7 (.t 21), none, 8⟩,
 ⟨(some 23), .faddr (.t 3) 0, none, 0⟩,
 ⟨(some 24), .load true 7 (.t 23), none, 32⟩,
 ⟨(some 25), .faddr (.t 3) 7, none, 0⟩,
 ⟨(some 26), .load true 7 (.t 25), none, 128⟩,
 ⟨(some 27), .call (.f n_heap_Store) [.t 20, .t 22, .t 24, .t 26], none, 511⟩,
 ⟨(some 17), .mv (.t 27), none, 1023⟩,
 ⟨(some 28), .extract (.t 17) 0, none, 2047⟩,
 ⟨(some 29), .extract (.t 17) 1, none, 2047⟩,
 ⟨(some 6), .mv (.t 28), none, 4095⟩,
 ⟨(some 7), .mv (.t 29), none, 16383⟩] false)
 (.seq (.seq (.reg [⟨(some 30), .mv (.t 7), none, 0⟩,
 ⟨(some 31), .bin .neq (.t 30) (.c (.pv (.int .i64 (0)))), none, 1⟩] false)
 (.cond (.t 31)
 (.seq (.reg [⟨(some 32), .faddr (.t 2) 0, none, 0⟩,
 ⟨(some 33), .load true 67 (.t 32), none, 1⟩,
 ⟨(some 34), .mv (.t 7), none, 0⟩,
 ⟨none, .store 67 (.t 4) (.t 33), none, 3⟩,
 ⟨(some 5), .mv (.t 34), none, 15⟩] false)
 (.ret))
 (.skip)))
 (.seq (.reg [⟨(some 35), .load true 67 (.t 2), none, 0⟩,
 ⟨(some 36), .load true 29 (.t 3), none, 0⟩,
 ⟨(some 37), .mv (.t 6), none, 0⟩,
 ⟨(some 38), .faddr (.t 3) 7, none, 0⟩,
 ⟨(some 39), .load true 7 (.t 38), none, 8⟩,
 ⟨(some 40), .bsl 7 1 [.pv (.int .i64 (0)), .pv (.bool false), .pv (.int .i64 (0)), .pv (.str []), .pv (.int .i64 (0)), .pv (.int .i64 (0)), .pv (.int .i64 (0))] [(0, .t 39)], none, 24⟩,
 ⟨(some 41), .call (.f n_resource_library_done) [.t 35, .t 36, .t 37, .t 40], none, 63⟩,
 ⟨(some 42), .extract (.t 41) 0, none, 127⟩,
 ⟨(some 43), .extract (.t 41) 1, none, 127⟩,
 ⟨none, .store 67 (.t 4) (.t 42), none, 511⟩,
 ⟨(some 5), .mv (.t 43), none, 1023⟩] false)
 (.ret)))))⟩
def c_resource_library_lookup : RFn := ⟨2, 32, [.cell 4 true 67, .tmp 5],
 .seq (.reg [⟨(some 2), .box 67 (.t 0), none, 0⟩,
 ⟨(some 3), .box 29 (.t 1), none, 0⟩,
 ⟨(some 4), .alloc [.emp 7, .emp 7, .emp 7, .emp 3, .pv (.int .i64 (0)), .pv (.int .i64 (0)), .pv (.int .i64 (0)), .pv (.int .i64 (0)), .pv (.int .i64 (0)), .pv (.int .i64 (0)), .pv (.int .i64 (0)), .emp 7, .pv (.int .i64 (0)), .pv (.int .i64 (0)), .pv (.int .i64 (0)), .pv (.int .i64 (0)), .pv (.int .i64 (0)), .pv (.int .i64 (0)), .pv (.int .i64 (0)), .pv (.int .i64 (0)), .pv (.int .i64 (0)), .pv (.int .i64 (0)), .pv (.int .i64 (0)), .pv (.int .i64 (0)), .pv (.int .i64 (0)), .pv (.int .i64 (0)), .pv (.int .i64 (0)), .pv (.int .i64 (0)), .pv (.int .i64 (0)), .pv (.int .i64 (0)), .pv (.int .i64 (0)), .pv (.int .i64 (0)), .pv (.bool false), .pv (.bool false), .emp 47, .pv (.int .i64 (0)), .pv (.int .i64 (0)), .pv (.int .i64 (0)), .pv (.int .i64 (0)), .pv (.int .i64 (0)), .pv (.int .i64 (0)), .pv (.int .i64 (0)), .pv (.int .i64 (0)), .emp 1, .pv (.int .i64 (0)), .pv (.int .i64 (0)), .emp 2, .pv (.int .i64 (0)), .pv (.bool false), .pv (.int .i64 (0)), .pv (.str []), .pv (.int .i64 (0)), .pv (.int .i64 (0)), .pv (.int .i64 (0)), .pv (.int .i64 (0)), .pv (.int .i64 (0)), .pv (.int .i64 (0)), .pv (.int .i64 (0)), .pv (.int .i64 (0)), .pv (.int .i64 (0)), .pv (.int .i64 (0)), .pv (.int .i64 (0)), .emp 57, .emp 47, .emp 3, .pv (.str []), .pv (.int .i64 (0))], none, 0⟩,
 ⟨(some 5), .mv (.c (.pv (.int .i64 (0)))), none, 0⟩] false)
 (.seq (.reg [⟨(some 9), .load true 67 (.t 2), none, 0⟩,
 ⟨(some 10), .faddr (.t 3) 21, none, 0⟩,
 ⟨(some 11), .load true 7 (.t 10), none, 2⟩,
 ⟨(some 12), .faddr (.t 3) 0, none, 0⟩,
 ⟨(some 13), .load true 7 (.t 12), none, 8⟩,
 ⟨(some 14), .call (.f n_resource_library_find) [.t 9, .t 11, .t 13], none, 31⟩,
 ⟨(some 8), .mv (.t 14), none, 63⟩,
 ⟨(some 15), .extract (.t 8) 0, none, 127⟩,
 ⟨(some 16), .extract (.t 8) 1, none, 127⟩,
 ⟨(some 6), .alloc [.pv (.int .i64 (0)), .pv (.bool false), .pv (.int .i64 (0)), .pv (.str []), .pv (.int .i64 (0)), .pv (.int .i64 (0)), .pv (.int .i64 (0))], none, 0⟩,
 ⟨none, .store 7 (.t 6) (.t 15), none, 767⟩,
 ⟨(some 7), .mv (.t 16), none, 2047⟩] false)
 (.seq (.seq (.reg [⟨(some 17), .mv (.t 7), none, 0⟩,
 ⟨(some 18), .bin .neq (.t 17) (.c (.pv (.int .i64 (0)))), none, 1⟩] false)
 (.cond (.t 18)
 (.seq (.reg [⟨(some 19), .faddr (.t 2) 0, none, 0⟩,
 ⟨(some 20), .load true 67 (.t 19), none, 1⟩,
 ⟨(some 21), .mv (.t 7), none, 0⟩,
 ⟨none, .store 67 (.t 4) (.t 20), none, 3⟩,
 ⟨(some 5), .mv (.t 21), none, 15⟩] false)
 (.ret))
 (.skip)))
 (.seq (.reg [⟨(some 22), .load true 67 (.t 2), none, 0⟩,
 ⟨(some 23), .load true 29 (.t 3), none, 0⟩,
 ⟨(some 24), .faddr (.t 2) 0, none, 0⟩,
 ⟨(some 25), .faddr (.t 24) 2, none, 4⟩,
 ⟨(some 26), .load false 1 (.t 25), none, 12⟩,
 ⟨(some 27), .load true 7 (.t 6), none, 0⟩,
 ⟨(some 28), .bsl 7 1 [.pv (.int .i64 (0)), .pv (.bool false), .pv (.int .i64 (0)), .pv (.str []), .pv (.int .i64 (0)), .pv (.int .i64 (0)), .pv (.int .i64 (0))] [(0, .t 27)], none, 32⟩,
 ⟨(some 29), .call (.f n_resource_library_done) [.t 22, .t 23, .t 26, .t 28], none, 127⟩,
 ⟨(some 30), .extract (.t 29) 0, none, 255⟩,
 ⟨(some 31), .extract (.t 29) 1, none, 255⟩,
 ⟨none, .store 67 (.t 4) (.t 30), none, 1023⟩,
 ⟨(some 5), .mv (.t 31), none, 2047⟩] false)
 (.ret))))⟩
def c_resource_library_remove : RFn := ⟨2, 30, [.cell 4 true 67, .tmp 5],
 .seq (.reg [⟨(some 2), .box 67 (.t 0), none, 0⟩,
 ⟨(some 3), .box 29 (.t 1), none, 0⟩,
 ⟨(some 4), .alloc [.emp 7, .emp 7, .emp 7, .emp 3, .pv (.int .i64 (0)), .pv (.int .i64 (0)), .pv (.int .i64 (0)), .pv (.int .i64 (0)), .pv (.int .i64 (0)), .pv (.int .i64 (0)), .pv (.int .i64 (0)), .emp 7, .pv (.int .i64 (0)), .pv (.int .i64 (0)), .pv (.int .i64 (0)), .pv (.int .i64 (0)), .pv (.int .i64 (0)), .pv (.int .i64 (0)), .pv (.int .i64 (0)), .pv (.int .i64 (0)), .pv (.int .i64 (0)), .pv (.int .i64 (0)), .pv (.int .i64 (0)), .pv (.int .i64 (0)), .pv (.int .i64 (0)), .pv (.int .i64 (0)), .pv (.int .i64 (0)), .pv (.int .i64 (0)), .pv (.int .i64 (0)), .pv (.int .i64 (0)), .pv (.int .i64 (0)), .pv (.int .i64 (0)), .pv (.bool false), .pv (.bool false), .emp 47, .pv (.int .i64 (0)), .pv (.int .i64 (0)), .pv (.int .i64 (0)), .pv (.int .i64 (0)), .pv (.int .i64 (0)), .pv (.int .i64 (0)), .pv (.int .i64 (0)), .pv (.int .i64 (0)), .emp 1, .pv (.int .i64 (0)), .pv (.int .i64 (0)), .emp 2, .pv (.int .i64 (0)), .pv (.bool false), .pv (.int .i64 (0)), .pv (.str []), .pv (.int .i64 (0)), .pv (.int .i64 (0)), .pv (.int .i64 (0)), .pv (.int .i64 (0)), .pv (.int .i64 (0)), .pv (.int .i64 (0)), .pv (.int .i64 (0)), .pv (.int .i64 (0)), .pv (.int .i64 (0)), .pv (.int .i64 (0)), .pv (.int .i64 (0)), .emp 57, .emp 47, .emp 3, .pv (.str []), .pv (.int .i64 (0))], none, 0⟩,
 ⟨(some 5), .mv (.c (.pv (.int .i64 (0)))), none, 0⟩] false)
 (.seq (.reg [⟨(some 9), .faddr (.t 2) 0, none, 0⟩,
 ⟨(some 10), .faddr (.t 9) 2, none, 1⟩,
 ⟨(some 11), .load false 1 (.t 10), none, 3⟩,
 ⟨(some 12), .faddr (.t 3) 21, none, 0⟩,
 ⟨(some 13), .load true 7 (.t 12), none, 8⟩,
 ⟨(some 14), .faddr (.t 3) 0, none, 0⟩,
 ⟨(some 15), .load true 7 (.t 14), none, 32⟩,
 ⟨(some 16), .call (.f n_heap_Remove) [.t 11, .t 13, .t 15], none, 127⟩,
 ⟨(some 8), .mv (.t 16), none, 255⟩,
 ⟨(some 17), .extract (.t 8) 0, none, 511⟩,
 ⟨(some 18), .extract (.t 8) 1, none, 511⟩,
 ⟨(some 6), .mv (.t 17), none, 1023⟩,
 ⟨(some 7), .mv (.t 18), none, 4095⟩] false)
 (.seq (.seq (.reg [⟨(some 19), .mv (.t 7), none, 0⟩,
 ⟨(some 20), .bin .neq (.t 19) (.c (.pv (.int .i64 (0)))), none, 1⟩] false)
 (.cond (.t 20)
 (.seq (.reg [⟨(some 21), .faddr (.t 2) 0, none, 0⟩,
 ⟨(some 22), .load true 67 (.t 21), none, 1⟩,
 ⟨(some 23), .mv (.t 7), none, 0⟩,
 ⟨none, .store 67 (.t 4) (.t 22), none, 3⟩,
 ⟨(some 5), .mv (.t 23), none, 15⟩] false)
 (.ret))
 (.skip)))
 (.seq (.reg [⟨(some 24), .load true 67 (.t 2), none, 0⟩,
 ⟨(some 25), .load true 29 (.t 3), none, 0⟩,
 ⟨(some 26), .mv (.t 6), none, 0⟩,
 ⟨(some 27), .call (.f n_resource_library_done) [.t 24, .t 25, .t 26, .c (.emp 7)], none, 7⟩,
 ⟨(some 28), .extract (.t 27) 0, none, 15⟩,
 ⟨(some 29), .extract (.t 27) 1, none, 15⟩,
 ⟨none, .store 67 (.t 4) (.t 28), none, 63⟩,
 ⟨(some 5), .mv (.t 29), none, 127⟩] false)
 (.ret))))⟩
def c_resource_library_status : RFn := ⟨2, 32, [.cell 4 true 67, .tmp 5],
 .seq (.reg [⟨(some 2), .box 67 (.t 0), none, 0⟩,
 ⟨(some 3), .box 29 (.t 1), none, 0⟩,
 ⟨(some 4), .alloc [.emp 7, .emp 7, .emp 7, .emp 3, .pv (.int .i64 (0)), .pv (.int .i64 (0)), .pv (.int .i64 (0)), .pv (.int .i64 (0)), .pv (.int .i64 (0)), .pv (.int .i64 (0)), .pv (.int .i64 (0)), .emp 7, .pv (.int .i64 (0)), .pv (.int .i64 (0)), .pv (.int .i64 (0)), .pv (.int .i64 (0)), .pv (.int .i64 (0)), .pv (.int .i64 (0)), .pv (.int .i64 (0)), .pv (.int .i64 (0)), .pv (.int .i64 (0)), .pv (.int .i64 (0)), .pv (.int .i64 (0)), .pv (.int .i64 (0)), .pv (.int .i64 (0)), .pv (.int .i64 (0)), .pv (.int .i64 (0)), .pv (.int .i64 (0)), .pv (.int .i64 (0)), .pv (.int .i64 (0)), .pv (.int .i64 (0)), .pv (.int .i64 (0)), .pv (.bool false), .pv (.bool false), .emp 47, .pv (.int .i64 (0)), .pv (.int .i64 (0)), .pv (.int .i64 (0)), .pv (.int .i64 (0)), .pv (.int .i64 (0)), .pv (.int .i64 (0)), .pv (.int .i64 (0)), .pv (.int .i64 (0)), .emp 1, .pv (.int .i64 (0)), .pv (.int .i64 (0)), .emp 2, .pv (.int .i64 (0)), .pv (.bool false), .pv (.int .i64 (0)), .pv (.str []), .pv (.int .i64 (0)), .pv (.int .i64 (0)), .pv (.int .i64 (0)), .pv (.int .i64 (0)), .pv (.int .i64 (0)), .pv (.int .i64 (0)), .pv (.int .i64 (0)), .pv (.int .i64 (0)), .pv (.int .i64 (0)), .pv (.int .i64 (0)), .pv (.int .i64 (0)), .emp 57, .emp 47, .emp 3, .pv (.str []), .pv (.int .i64 (0))], none, 0⟩,
 ⟨(some 5), .mv (.c (.pv (.int .i64 (0)))), none, 0⟩] false)
 (.seq (.reg [⟨(some 9), .build [.pv (.int .i64 (0)), .pv (.bool false), .pv (.int .i64 (0)), .pv (.str []), .pv (.int .i64 (0)), .pv (.int .i64 (0)), .pv (.int .i64 (0))] [(0, 1, .c (.pv (.int .i64 (2))))], none, 0⟩,
 ⟨(some 6), .alloc [.pv (.int .i64 (0)), .pv (.bool false), .pv (.int .i64 (0)), .pv (.str []), .pv (.int .i64 (0)), .pv (.int .i64 (0)), .pv (.int .i64 (0))], none, 0⟩,
 ⟨none, .store 7 (.t 6) (.t 9), none, 3⟩] false)
 (.seq (.seq (.reg [⟨(some 11), .load true 67 (.t 2), none, 0⟩,
 ⟨(some 12), .faddr (.t 3) 21, none, 0⟩,
 ⟨(some 13), .load true 7 (.t 12), none, 2⟩,
 ⟨(some 14), .faddr (.t 3) 0, none, 0⟩,
 ⟨(some 15), .load true 7 (.t 14), none, 8⟩,
 ⟨(some 16), .call (.f n_resource_library_find) [.t 11, .t 13, .t 15], none, 31⟩,
 ⟨(some 10), .mv (.t 16), none, 63⟩,
 ⟨(some 17), .extract (.t 10) 0, none, 127⟩,
 ⟨(some 18), .extract (.t 10) 1, none, 127⟩,
 ⟨(some 7), .alloc [.pv (.int .i64 (0)), .pv (.bool false), .pv (.int .i64 (0)), .pv (.str []), .pv (.int .i64 (0)), .pv (.int .i64 (0)), .pv (.int .i64 (0))], none, 0⟩,
 ⟨none, .store 7 (.t 7) (.t 17), none, 767⟩,
 ⟨(some 8), .mv (.t 18), none, 2047⟩] false)
 (.seq (.reg [⟨(some 19), .mv (.t 8), none, 0⟩,
 ⟨(some 20), .bin .eql (.t 19) (.c (.pv (.int .i64 (0)))), none, 1⟩] false)
 (.cond (.t 20)
 (.reg [⟨(some 21), .faddr (.t 6) 2, none, 0⟩,
 ⟨none, .store 1 (.t 21) (.c (.pv (.int .i64 (1)))), none, 1⟩] false)
 (.skip))))
 (.seq (.reg [⟨(some 22), .load true 67 (.t 2), none, 0⟩,
 ⟨(some 23), .load true 29 (.t 3), none, 0⟩,
 ⟨(some 24), .faddr (.t 2) 0, none, 0⟩,
 ⟨(some 25), .faddr (.t 24) 2, none, 4⟩,
 ⟨(some 26), .load false 1 (.t 25), none, 12⟩,
 ⟨(some 27), .load true 7 (.t 6), none, 0⟩,
 ⟨(some 28), .bsl 7 1 [.pv (.int .i64 (0)), .pv (.bool false), .pv (.int .i64 (0)), .pv (.str []), .pv (.int .i64 (0)), .pv (.int .i64 (0)), .pv (.int .i64 (0))] [(0, .t 27)], none, 32⟩,
 ⟨(some 29), .call (.f n_resource_library_done) [.t 22, .t 23, .t 26, .t 28], none, 127⟩,
 ⟨(some 30), .extract (.t 29) 0, none, 255⟩,
 ⟨(some 31), .extract (.t 29) 1, none, 255⟩,
 ⟨none, .store 67 (.t 4) (.t 30), none, 1023⟩,
 ⟨(some 5), .mv (.t 31), none, 2047⟩] false)
 (.ret))))⟩
def c_heap_viewOf : RFn := ⟨3, 23, [.cell 6 true 8, .tmp 7],
 .seq (.reg [⟨(some 4), .box 7 (.t 1), none, 0⟩,
 ⟨(some 6), .alloc [.emp 7, .pv (.int .i64 (0)), .pv (.bool false), .pv (.int .i64 (0)), .pv (.str []), .pv (.int .i64 (0)), .pv (.int .i64 (0)), .pv (.int .i64 (0))], none, 0⟩,
 ⟨(some 7), .mv (.c (.pv (.int .i64 (0)))), none, 0⟩] false)
 (.seq (.seq (.reg [⟨(some 8), .mv (.t 0), none, 0⟩,
 ⟨(some 9), .load true 7 (.t 4), none, 0⟩,
 ⟨(some 10), .call (.f n_heap_Fits) [.t 8, .t 9], none, 3⟩,
 ⟨(some 11), .not (.t 10), none, 7⟩] false)
 (.cond (.t 11)
 (.seq (.reg [⟨(some 12), .build [.emp 7, .pv (.int .i64 (0)), .pv (.bool false), .pv (.int .i64 (0)), .pv (.str []), .pv (.int .i64 (0)), .pv (.int .i64 (0)), .pv (.int .i64 (0))] [], none, 0⟩,
 ⟨none, .store 8 (.t 6) (.t 12), none, 1⟩,
 ⟨(some 7), .mv (.c (.pv (.int .i64 (2)))), none, 3⟩] false)
 (.ret))
 (.skip)))
 (.seq (.seq (.reg [⟨(some 13), .mv (.t 2), none, 0⟩,
 ⟨(some 14), .faddr (.t 4) 0, none, 0⟩,
 ⟨(some 15), .load false 1 (.t 14), none, 2⟩,
 ⟨(some 16), .call (.f n_slices_Contains_int) [.t 13, .t 15], none, 7⟩,
 ⟨(some 17), .not (.t 16), none, 15⟩] false)
 (.cond (.t 17)
 (.seq (.reg [⟨(some 18), .build [.emp 7, .pv (.int .i64 (0)), .pv (.bool false), .pv (.int .i64 (0)), .pv (.str []), .pv (.int .i64 (0)), .pv (.int .i64 (0)), .pv (.int .i64 (0))] [], none, 0⟩,
 ⟨none, .store 8 (.t 6) (.t 18), none, 1⟩,
 ⟨(some 7), .mv (.c (.pv (.int .i64 (22)))), none, 3⟩] false)
 (.ret))
 (.skip)))
 (.seq (.reg [⟨(some 19), .mv (.t 0), none, 0⟩,
 ⟨(some 20), .build [.emp 7] [(0, 1, .t 19)], none, 1⟩,
 ⟨(some 21), .load true 7 (.t 4), none, 0⟩,
 ⟨(some 22), .build [.emp 7, .pv (.int .i64 (0)), .pv (.bool false), .pv (.int .i64 (0)), .pv (.str []), .pv (.int .i64 (0)), .pv (.int .i64 (0)), .pv (.int .i64 (0))] [(0, 1, .t 20), (1, 7, .t 21)], none, 7⟩,
 ⟨none, .store 8 (.t 6) (.t 22), none, 15⟩,
 ⟨(some 7), .mv (.c (.pv (.int .i64 (0)))), none, 31⟩] false)
 (.ret))))⟩
def c_heap_view_cell : RFn := ⟨1, 11, [.cell 2 true 7],
 .seq (.reg [⟨(some 1), .box 8 (.t 0), none, 0⟩,
 ⟨(some 2), .alloc [.pv (.int .i64 (0)), .pv (.str []), .emp 7, .emp 7, .emp 7, .pv (.int .i64 (0)), .pv (.int .i64 (0))], none, 0⟩] false)
 (.seq (.reg [⟨(some 3), .faddr (.t 1) 0, none, 0⟩,
 ⟨(some 4), .faddr (.t 3) 0, none, 1⟩,
 ⟨(some 5), .load false 1 (.t 4), none, 3⟩,
 ⟨(some 6), .faddr (.t 1) 1, none, 0⟩,
 ⟨(some 7), .faddr (.t 6) 4, none, 8⟩,
 ⟨(some 8), .load false 1 (.t 7), none, 24⟩,
 ⟨(some 9), .iaddr 7 (.t 5) (.t 8), none, 63⟩,
 ⟨(some 10), .load true 7 (.t 9), none, 127⟩,
 ⟨none, .store 7 (.t 2) (.t 10), none, 255⟩] false)
 (.ret))⟩
def c_heap_view_with : RFn := ⟨2, 23, [.tmp 4],
 .seq (.reg [⟨(some 2), .box 8 (.t 0), none, 0⟩,
 ⟨(some 3), .box 7 (.t 1), none, 0⟩,
 ⟨(some 4), .mv (.c (.emp 7)), none, 0⟩] false)
 (.seq (.reg [⟨(some 6), .faddr (.t 2) 0, none, 0⟩,
 ⟨(some 7), .faddr (.t 6) 0, none, 1⟩,
 ⟨(some 8), .load false 1 (.t 7), none, 3⟩,
 ⟨(some 9), .slen (.t 8), none, 7⟩,
 ⟨(some 10), .mksl 7 112 [.int .i64 (0), .str [], .sl 7 [], .sl 7 [], .sl 7 [], .int .i64 (0), .int .i64 (0)] (.t 9), none, 15⟩,
 ⟨(some 5), .mv (.t 10), none, 31⟩] false)
 (.seq (.reg [⟨(some 11), .mv (.t 5), none, 0⟩,
 ⟨(some 12), .faddr (.t 2) 0, none, 0⟩,
 ⟨(some 13), .faddr (.t 12) 0, none, 2⟩,
 ⟨(some 14), .load false 1 (.t 13), none, 6⟩,
 ⟨(some 15), .copy 7 (.t 11) (.t 14), none, 15⟩] false)
 (.seq (.reg [⟨(some 16), .mv (.t 5), none, 0⟩,
 ⟨(some 17), .faddr (.t 2) 1, none, 0⟩,
 ⟨(some 18), .faddr (.t 17) 4, none, 2⟩,
 ⟨(some 19), .load false 1 (.t 18), none, 6⟩,
 ⟨(some 20), .load true 7 (.t 3), none, 0⟩,
 ⟨(some 21), .iaddr 7 (.t 16) (.t 19), none, 31⟩,
 ⟨none, .store 7 (.t 21) (.t 20), none, 63⟩] false)
 (.seq (.reg [⟨(some 22), .mv (.t 5), none, 0⟩,
 ⟨(some 4), .mv (.t 22), none, 1⟩] false)
 (.ret)))))⟩
def c_heap_replaced_Obj : RFn := ⟨3, 20, [.tmp 6],
 .seq (.reg [⟨(some 6), .mv (.c (.emp 7)), none, 0⟩] false)
 (.seq (.reg [⟨(some 8), .mv (.t 0), none, 0⟩,
 ⟨(some 9), .slen (.t 8), none, 1⟩,
 ⟨(some 10), .mksl 7 64 [.int .i64 (0), .bool false, .int .i64 (0), .str [], .int .i64 (0), .int .i64 (0), .int .i64 (0)] (.t 9), none, 3⟩,
 ⟨(some 7), .mv (.t 10), none, 7⟩] false)
 (.seq (.reg [⟨(some 11), .mv (.t 7), none, 0⟩,
 ⟨(some 12), .mv (.t 0), none, 0⟩,
 ⟨(some 13), .copy 7 (.t 11) (.t 12), none, 3⟩] false)
 (.seq (.reg [⟨(some 14), .mv (.t 7), none, 0⟩,
 ⟨(some 15), .mv (.t 1), none, 0⟩,
 ⟨(some 16), .slice 7 (.t 14) (some (.t 15)) none none, none, 3⟩,
 ⟨(some 17), .mv (.t 2), none, 0⟩,
 ⟨(some 18), .copy 7 (.t 16) (.t 17), none, 15⟩] false)
 (.seq (.reg [⟨(some 19), .mv (.t 7), none, 0⟩,
 ⟨(some 6), .mv (.t 19), none, 1⟩] false)
 (.ret)))))⟩
def c_ref11_With : RFn := ⟨3, 16, [.tmp 6],
 .seq (.reg [⟨(some 5), .box 7 (.t 2), none, 0⟩,
 ⟨(some 6), .mv (.c (.emp 7)), none, 0⟩] false)
 (.seq (.reg [⟨(some 7), .mv (.c (.emp 7)), none, 0⟩] false)
 (.seq (.reg [⟨(some 8), .mv (.t 7), none, 0⟩,
 ⟨(some 9), .mv (.t 0), none, 0⟩,
 ⟨(some 10), .append 7 112 (.t 8) (.t 9), none, 3⟩,
 ⟨(some 7), .mv (.t 10), none, 7⟩] false)
 (.seq (.reg [⟨(some 11), .mv (.t 7), none, 0⟩,
 ⟨(some 12), .mv (.t 1), none, 0⟩,
 ⟨(some 13), .load true 7 (.t 5), none, 0⟩,
 ⟨(some 14), .iaddr 7 (.t 11) (.t 12), none, 7⟩,
 ⟨none, .store 7 (.t 14) (.t 13), none, 15⟩] false)
 (.seq (.reg [⟨(some 15), .mv (.t 7), none, 0⟩,
 ⟨(some 6), .mv (.t 15), none, 1⟩] false)
 (.ret)))))⟩
def c_slices_Index_Obj : RFn := ⟨2, 19, [.tmp 4],
 .seq (.reg [⟨(some 3), .box 7 (.t 1), none, 0⟩,
 ⟨(some 4), .mv (.c (.pv (.int .i64 (0)))), none, 0⟩] false)
 (.seq (.seq (.reg [⟨(some 6), .mv (.t 0), none, 0⟩,
 ⟨(some 7), .slen (.t 6), none, 1⟩,
 ⟨(some 8), .mv (.c (.pv (.int .i64 (0)))), none, 0⟩] false)
 (.block 0
 (.loop [0, 3, 7, 8]
 (.seq (.reg [⟨(some 9), .bin .lss (.t 8) (.t 7), none, 0⟩] false)
 (.seq (.cond (.t 9)
 (.skip)
 (.exit 0))
 (.seq (.block 1
 (.seq (.reg [⟨(some 10), .mv (.t 8), none, 0⟩,
 ⟨(some 5), .mv (.t 10), none, 1⟩] false)
 (.seq (.reg [⟨(some 11), .load true 7 (.t 3), none, 0⟩,
 ⟨(some 12), .mv (.t 0), none, 0⟩,
 ⟨(some 13), .mv (.t 5), none, 0⟩,
 ⟨(some 14), .iaddr 7 (.t 12) (.t 13), none, 6⟩,
 ⟨(some 15), .load true 7 (.t 14), none, 14⟩,
 ⟨(some 16), .eqs false [0, 1, 0, 2, 0, 0, 0] (.t 11) (.t 15), none, 31⟩] true)
 (.cond (.t 16)
 (.seq (.reg [⟨(some 17), .mv (.t 5), none, 0⟩,
 ⟨(some 4), .mv (.t 17), none, 1⟩] false)
 (.ret))
 (.skip)))))
 (.reg [⟨(some 18), .bin .add (.t 8) (.c (.pv (.int .i64 (1)))), none, 0⟩,
 ⟨(some 8), .mv (.t 18), none, 1⟩] false)))))))
 (.seq (.reg [⟨(some 4), .mv (.c (.pv (.int .i64 (-1)))), none, 0⟩] false)
 (.ret)))⟩
def c_slices_Delete_Obj : RFn := ⟨3, 33, [.tmp 6],
 .seq (.reg [⟨(some 6), .mv (.c (.emp 7)), none, 0⟩] false)
 (.seq (.reg [⟨(some 8), .mv (.t 0), none, 0⟩,
 ⟨(some 9), .mv (.t 1), none, 0⟩,
 ⟨(some 10), .mv (.t 2), none, 0⟩,
 ⟨(some 11), .mv (.t 0), none, 0⟩,
 ⟨(some 12), .slen (.t 11), none, 8⟩,
 ⟨(some 13), .slice 7 (.t 8) (some (.t 9)) (some (.t 10)) (some (.t 12)), none, 31⟩] false)
 (.seq (.seq (.reg [⟨(some 14), .mv (.t 1), none, 0⟩,
 ⟨(some 15), .mv (.t 2), none, 0⟩,
 ⟨(some 16), .bin .eql (.t 14) (.t 15), none, 3⟩] false)
 (.cond (.t 16)
 (.seq (.reg [⟨(some 17), .mv (.t 0), none, 0⟩,
 ⟨(some 6), .mv (.t 17), none, 1⟩] false)
 (.ret))
 (.skip)))
 (.seq (.reg [⟨(some 18), .mv (.t 0), none, 0⟩,
 ⟨(some 19), .slen (.t 18), none, 1⟩,
 ⟨(some 7), .mv (.t 19), none, 3⟩] false)
 (.seq (.reg [⟨(some 20), .mv (.t 0), none, 0⟩,
 ⟨(some 21), .mv (.t 1), none, 0⟩,
 ⟨(some 22), .slice 7 (.t 20) none (some (.t 21)) none, none, 3⟩,
 ⟨(some 23), .mv (.t 0), none, 0⟩,
 ⟨(some 24), .mv (.t 2), none, 0⟩,
 ⟨(some 25), .slice 7 (.t 23) (some (.t 24)) none none, none, 24⟩,
 ⟨(some 26), .append 7 64 (.t 22) (.t 25), none, 63⟩,
 ⟨(some 0), .mv (.t 26), none, 127⟩] true)
 (.seq (.reg [⟨(some 27), .mv (.t 0), none, 0⟩,
 ⟨(some 28), .mv (.t 0), none, 0⟩,
 ⟨(some 29), .slen (.t 28), none, 2⟩,
 ⟨(some 30), .mv (.t 7), none, 0⟩,
 ⟨(some 31), .slice 7 (.t 27) (some (.t 29)) (some (.t 30)) none, none, 15⟩,
 ⟨none, .clear 7 [.int .i64 (0), .bool false, .int .i64 (0), .str [], .int .i64 (0), .int .i64 (0), .int .i64 (0)] (.t 31), none, 31⟩] false)
 (.seq (.reg [⟨(some 32), .mv (.t 0), none, 0⟩,
 ⟨(some 6), .mv (.t 32), none, 1⟩] false)
 (.ret)))))))⟩
def c_ref11_index : RFn := ⟨2, 19, [.tmp 4],
 .seq (.reg [⟨(some 3), .box 7 (.t 1), none, 0⟩,
 ⟨(some 4), .mv (.c (.pv (.int .i64 (0)))), none, 0⟩] false)
 (.seq (.seq (.reg [⟨(some 5), .mv (.c (.pv (.int .i64 (0)))), none, 0⟩] false)
 (.block 0
 (.loop [0, 3, 5]
 (.seq (.seq (.reg [⟨(some 6), .mv (.t 5), none, 0⟩,
 ⟨(some 7), .mv (.t 0), none, 0⟩,
 ⟨(some 8), .slen (.t 7), none, 2⟩,
 ⟨(some 9), .bin .lss (.t 6) (.t 8), none, 7⟩] false)
 (.cond (.t 9)
 (.skip)
 (.exit 0)))
 (.seq (.block 1
 (.seq (.reg [⟨(some 12), .mv (.t 0), none, 0⟩,
 ⟨(some 13), .mv (.t 5), none, 0⟩,
 ⟨(some 14), .iaddr 7 (.t 12) (.t 13), none, 3⟩,
 ⟨(some 15), .load true 7 (.t 14), none, 7⟩,
 ⟨(some 16), .load true 7 (.t 3), none, 0⟩,
 ⟨(some 17), .eqs false [0, 1, 0, 2, 0, 0, 0] (.t 15) (.t 16), none, 31⟩] true)
 (.cond (.t 17)
 (.seq (.reg [⟨(some 18), .mv (.t 5), none, 0⟩,
 ⟨(some 4), .mv (.t 18), none, 1⟩] false)
 (.ret))
 (.skip))))
 (.reg [⟨(some 10), .mv (.t 5), none, 0⟩,
 ⟨(some 11), .bin .add (.t 10) (.c (.pv (.int .i64 (1)))), none, 1⟩,
 ⟨(some 5), .mv (.t 11), none, 3⟩] false))))))
 (.seq (.reg [⟨(some 4), .mv (.c (.pv (.int .i64 (-1)))), none, 0⟩] false)
 (.ret)))⟩
def c_ref11_dict : RFn := ⟨1, 5, [.cell 2 true 7],
 .seq (.reg [⟨(some 2), .alloc [.pv (.int .i64 (0)), .pv (.str []), .emp 7, .emp 7, .emp 7, .pv (.int .i64 (0)), .pv (.int .i64 (0))], none, 0⟩] false)
 (.seq (.reg [⟨(some 3), .mv (.t 0), none, 0⟩,
 ⟨(some 4), .build [.pv (.int .i64 (0)), .pv (.str []), .emp 7, .emp 7, .emp 7, .pv (.int .i64 (0)), .pv (.int .i64 (0))] [(0, 1, .c (.pv (.int .i64 (3)))), (5, 1, .t 3)], none, 1⟩,
 ⟨none, .store 7 (.t 2) (.t 4), none, 3⟩] false)
 (.ret))⟩
def c_ref11_name : RFn := ⟨1, 5, [.cell 2 true 7],
 .seq (.reg [⟨(some 2), .alloc [.pv (.int .i64 (0)), .pv (.bool false), .pv (.int .i64 (0)), .pv (.str []), .pv (.int .i64 (0)), .pv (.int .i64 (0)), .pv (.int .i64 (0))], none, 0⟩] false)
 (.seq (.reg [⟨(some 3), .mv (.t 0), none, 0⟩,
 ⟨(some 4), .build [.pv (.int .i64 (0)), .pv (.bool false), .pv (.int .i64 (0)), .pv (.str []), .pv (.int .i64 (0)), .pv (.int .i64 (0)), .pv (.int .i64 (0))] [(0, 1, .c (.pv (.int .i64 (5)))), (3, 1, .t 3)], none, 1⟩,
 ⟨none, .store 7 (.t 2) (.t 4), none, 3⟩] false)
 (.ret))⟩
def c_stack_Push : RFn := ⟨2, 27, [.cell 4 true 67, .tmp 5],
 .seq (.reg [⟨(some 2), .box 67 (.t 0), none, 0⟩,
 ⟨(some 4), .alloc [.emp 7, .emp 7, .emp 7, .emp 3, .pv (.int .i64 (0)), .pv (.int .i64 (0)), .pv (.int .i64 (0)), .pv (.int .i64 (0)), .pv (.int .i64 (0)), .pv (.int .i64 (0)), .pv (.int .i64 (0)), .emp 7, .pv (.int .i64 (0)), .pv (.int .i64 (0)), .pv (.int .i64 (0)), .pv (.int .i64 (0)), .pv (.int .i64 (0)), .pv (.int .i64 (0)), .pv (.int .i64 (0)), .pv (.int .i64 (0)), .pv (.int .i64 (0)), .pv (.int .i64 (0)), .pv (.int .i64 (0)), .pv (.int .i64 (0)), .pv (.int .i64 (0)), .pv (.int .i64 (0)), .pv (.int .i64 (0)), .pv (.int .i64 (0)), .pv (.int .i64 (0)), .pv (.int .i64 (0)), .pv (.int .i64 (0)), .pv (.int .i64 (0)), .pv (.bool false), .pv (.bool false), .emp 47, .pv (.int .i64 (0)), .pv (.int .i64 (0)), .pv (.int .i64 (0)), .pv (.int .i64 (0)), .pv (.int .i64 (0)), .pv (.int .i64 (0)), .pv (.int .i64 (0)), .pv (.int .i64 (0)), .emp 1, .pv (.int .i64 (0)), .pv (.int .i64 (0)), .emp 2, .pv (.int .i64 (0)), .pv (.bool false), .pv (.int .i64 (0)), .pv (.str []), .pv (.int .i64 (0)), .pv (.int .i64 (0)), .pv (.int .i64 (0)), .pv (.int .i64 (0)), .pv (.int .i64 (0)), .pv (.int .i64 (0)), .pv (.int .i64 (0)), .pv (.int .i64 (0)), .pv (.int .i64 (0)), .pv (.int .i64 (0)), .pv (.int .i64 (0)), .emp 57, .emp 47, .emp 3, .pv (.str []), .pv (.int .i64 (0))], none, 0⟩,
 ⟨(some 5), .mv (.c (.pv (.int .i64 (0)))), none, 0⟩] false)
 (.seq (.seq (.reg [⟨(some 6), .faddr (.t 2) 0, none, 0⟩,
 ⟨(some 7), .load false 1 (.t 6), none, 1⟩,
 ⟨(some 8), .slen (.t 7), none, 3⟩,
 ⟨(some 9), .mv (.t 1), none, 0⟩,
 ⟨(some 10), .slen (.t 9), none, 8⟩,
 ⟨(some 11), .bin .add (.t 8) (.t 10), none, 31⟩,
 ⟨(some 12), .bin .gtr (.t 11) (.c (.pv (.int .i64 (100)))), none, 63⟩] false)
 (.cond (.t 12)
 (.seq (.reg [⟨(some 13), .load true 67 (.t 2), none, 0⟩,
 ⟨none, .store 67 (.t 4) (.t 13), none, 1⟩,
 ⟨(some 5), .mv (.c (.pv (.int .i64 (21)))), none, 3⟩] false)
 (.ret))
 (.skip)))
 (.seq (.reg [⟨(some 14), .faddr (.t 2) 0, none, 0⟩,
 ⟨(some 15), .load false 1 (.t 14), none, 1⟩,
 ⟨(some 16), .faddr (.t 2) 0, none, 0⟩,
 ⟨(some 17), .load false 1 (.t 16), none, 4⟩,
 ⟨(some 18), .slen (.t 17), none, 12⟩,
 ⟨(some 19), .faddr (.t 2) 0, none, 0⟩,
 ⟨(some 20), .load false 1 (.t 19), none, 32⟩,
 ⟨(some 21), .slen (.t 20), none, 96⟩,
 ⟨(some 22), .slice 7 (.t 15) none (some (.t 18)) (some (.t 21)), none, 255⟩,
 ⟨(some 23), .mv (.t 1), none, 0⟩,
 ⟨(some 24), .append 7 64 (.t 22) (.t 23), none, 1023⟩,
 ⟨(some 25), .faddr (.t 2) 0, none, 2047⟩,
 ⟨none, .store 1 (.t 25) (.t 24), none, 4095⟩] false)
 (.seq (.reg [⟨(some 26), .load true 67 (.t 2), none, 0⟩,
 ⟨none, .store 67 (.t 4) (.t 26), none, 1⟩,
 ⟨(some 5), .mv (.c (.pv (.int .i64 (0)))), none, 3⟩] false)
 (.ret))))⟩
def c_stack_Top : RFn := ⟨2, 27, [.tmp 4, .tmp 5],
 .seq (.reg [⟨(some 2), .box 67 (.t 0), none, 0⟩,
 ⟨(some 4), .mv (.c (.emp 7)), none, 0⟩,
 ⟨(some 5), .mv (.c (.pv (.int .i64 (0)))), none, 2⟩] false)
 (.seq (.seq (.reg [⟨(some 6), .mv (.t 1), none, 0⟩,
 ⟨(some 7), .bin .lss (.t 6) (.c (.pv (.int .i64 (0)))), none, 1⟩] false)
 (.cond (.t 7)
 (.seq (.reg [⟨(some 4), .mv (.c (.emp 7)), none, 0⟩,
 ⟨(some 5), .mv (.c (.pv (.int .i64 (2)))), none, 1⟩] false)
 (.ret))
 (.skip)))
 (.seq (.seq (.reg [⟨(some 8), .mv (.t 1), none, 0⟩,
 ⟨(some 9), .faddr (.t 2) 0, none, 0⟩,
 ⟨(some 10), .load false 1 (.t 9), none, 2⟩,
 ⟨(some 11), .slen (.t 10), none, 6⟩,
 ⟨(some 12), .bin .gtr (.t 8) (.t 11), none, 15⟩] false)
 (.cond (.t 12)
 (.seq (.reg [⟨(some 4), .mv (.c (.emp 7)), none, 0⟩,
 ⟨(some 5), .mv (.c (.pv (.int .i64 (20)))), none, 1⟩] false)
 (.ret))
 (.skip)))
 (.seq (.reg [⟨(some 13), .faddr (.t 2) 0, none, 0⟩,
 ⟨(some 14), .load false 1 (.t 13), none, 1⟩,
 ⟨(some 15), .faddr (.t 2) 0, none, 0⟩,
 ⟨(some 16), .load false 1 (.t 15), none, 4⟩,
 ⟨(some 17), .slen (.t 16), none, 12⟩,
 ⟨(some 18), .mv (.t 1), none, 0⟩,
 ⟨(some 19), .bin .sub (.t 17) (.t 18), none, 60⟩,
 ⟨(some 20), .faddr (.t 2) 0, none, 0⟩,
 ⟨(some 21), .load false 1 (.t 20), none, 128⟩,
 ⟨(some 22), .slen (.t 21), none, 384⟩,
 ⟨(some 23), .faddr (.t 2) 0, none, 0⟩,
 ⟨(some 24), .load false 1 (.t 23), none, 1024⟩,
 ⟨(some 25), .slen (.t 24), none, 3072⟩,
 ⟨(some 26), .slice 7 (.t 14) (some (.t 19)) (some (.t 22)) (some (.t 25)), none, 8191⟩,
 ⟨(some 4), .mv (.t 26), none, 16383⟩,
 ⟨(some 5), .mv (.c (.pv (.int .i64 (0)))), none, 32767⟩] false)
 (.ret))))⟩
def c_stack_Drop : RFn := ⟨2, 30, [.cell 4 true 67, .tmp 5],
 .seq (.reg [⟨(some 2), .box 67 (.t 0), none, 0⟩,
 ⟨(some 4), .alloc [.emp 7, .emp 7, .emp 7, .emp 3, .pv (.int .i64 (0)), .pv (.int .i64 (0)), .pv (.int .i64 (0)), .pv (.int .i64 (0)), .pv (.int .i64 (0)), .pv (.int .i64 (0)), .pv (.int .i64 (0)), .emp 7, .pv (.int .i64 (0)), .pv (.int .i64 (0)), .pv (.int .i64 (0)), .pv (.int .i64 (0)), .pv (.int .i64 (0)), .pv (.int .i64 (0)), .pv (.int .i64 (0)), .pv (.int .i64 (0)), .pv (.int .i64 (0)), .pv (.int .i64 (0)), .pv (.int .i64 (0)), .pv (.int .i64 (0)), .pv (.int .i64 (0)), .pv (.int .i64 (0)), .pv (.int .i64 (0)), .pv (.int .i64 (0)), .pv (.int .i64 (0)), .pv (.int .i64 (0)), .pv (.int .i64 (0)), .pv (.int .i64 (0)), .pv (.bool false), .pv (.bool false), .emp 47, .pv (.int .i64 (0)), .pv (.int .i64 (0)), .pv (.int .i64 (0)), .pv (.int .i64 (0)), .pv (.int .i64 (0)), .pv (.int .i64 (0)), .pv (.int .i64 (0)), .pv (.int .i64 (0)), .emp 1, .pv (.int .i64 (0)), .pv (.int .i64 (0)), .emp 2, .pv (.int .i64 (0)), .pv (.bool false), .pv (.int .i64 (0)), .pv (.str []), .pv (.int .i64 (0)), .pv (.int .i64 (0)), .pv (.int .i64 (0)), .pv (.int .i64 (0)), .pv (.int .i64 (0)), .pv (.int .i64 (0)), .pv (.int .i64 (0)), .pv (.int .i64 (0)), .pv (.int .i64 (0)), .pv (.int .i64 (0)), .pv (.int .i64 (0)), .emp 57, .emp 47, .emp 3, .pv (.str []), .pv (.int .i64 (0))], none, 0⟩,
 ⟨(some 5), .mv (.c (.pv (.int .i64 (0)))), none, 0⟩] false)
 (.seq (.seq (.reg [⟨(some 6), .mv (.t 1), none, 0⟩,
 ⟨(some 7), .bin .lss (.t 6) (.c (.pv (.int .i64 (0)))), none, 1⟩] false)
 (.cond (.t 7)
 (.seq (.reg [⟨(some 8), .load true 67 (.t 2), none, 0⟩,
 ⟨none, .store 67 (.t 4) (.t 8), none, 1⟩,
 ⟨(some 5), .mv (.c (.pv (.int .i64 (2)))), none, 3⟩] false)
 (.ret))
 (.skip)))
 (.seq (.seq (.reg [⟨(some 9), .mv (.t 1), none, 0⟩,
 ⟨(some 10), .faddr (.t 2) 0, none, 0⟩,
 ⟨(some 11), .load false 1 (.t 10), none, 2⟩,
 ⟨(some 12), .slen (.t 11), none, 6⟩,
 ⟨(some 13), .bin .gtr (.t 9) (.t 12), none, 15⟩] false)
 (.cond (.t 13)
 (.seq (.reg [⟨(some 14), .load true 67 (.t 2), none, 0⟩,
 ⟨none, .store 67 (.t 4) (.t 14), none, 1⟩,
 ⟨(some 5), .mv (.c (.pv (.int .i64 (20)))), none, 3⟩] false)
 (.ret))
 (.skip)))
 (.seq (.reg [⟨(some 15), .faddr (.t 2) 0, none, 0⟩,
 ⟨(some 16), .load false 1 (.t 15), none, 1⟩,
 ⟨(some 17), .faddr (.t 2) 0, none, 0⟩,
 ⟨(some 18), .load false 1 (.t 17), none, 4⟩,
 ⟨(some 19), .slen (.t 18), none, 12⟩,
 ⟨(some 20), .mv (.t 1), none, 0⟩,
 ⟨(some 21), .bin .sub (.t 19) (.t 20), none, 60⟩,
 ⟨(some 22), .faddr (.t 2) 0, none, 0⟩,
 ⟨(some 23), .load false 1 (.t 22), none, 128⟩,
 ⟨(some 24), .slen (.t 23), none, 384⟩,
 ⟨(some 25), .mv (.t 1), none, 0⟩,
 ⟨(some 26), .bin .sub (.t 24) (.t 25), none, 1920⟩,
 ⟨(some 27), .slice 7 (.t 16) none (some (.t 21)) (some (.t 26)), none, 4095⟩,
 ⟨(some 28), .faddr (.t 2) 0, none, 8191⟩,
 ⟨none, .store 1 (.t 28) (.t 27), none, 16383⟩] false)
 (.seq (.reg [⟨(some 29), .load true 67 (.t 2), none, 0⟩,
 ⟨none, .store 67 (.t 4) (.t 29), none, 1⟩,
 ⟨(some 5), .mv (.c (.pv (.int .i64 (0)))), none, 3⟩] false)
 (.ret)))))⟩
def c_object_kinds : RFn := ⟨0, 15, [.cell 0 true 78],
 .seq (.reg [⟨(some 0), .alloc [.pv (.str []), .pv (.int .i64 (0)), .pv (.int .i64 (0)), .pv (.int .i64 (0)), .pv (.int .i64 (0)), .pv (.int .i64 (0)), .pv (.str []), .pv (.int .i64 (0)), .pv (.int .i64 (0)), .pv (.int .i64 (0)), .pv (.int .i64 (0)), .pv (.int .i64 (0)), .pv (.str []), .pv (.int .i64 (0)), .pv (.int .i64 (0)), .pv (.int .i64 (0)), .pv (.int .i64 (0)), .pv (.int .i64 (0)), .pv (.str []), .pv (.int .i64 (0)), .pv (.int .i64 (0)), .pv (.int .i64 (0)), .pv (.int .i64 (0)), .pv (.int .i64 (0)), .pv (.str []), .pv (.int .i64 (0)), .pv (.int .i64 (0)), .pv (.int .i64 (0)), .pv (.int .i64 (0)), .pv (.int .i64 (0)), .pv (.str []), .pv (.int .i64 (0)), .pv (.int .i64 (0)), .pv (.int .i64 (0)), .pv (.int .i64 (0)), .pv (.int .i64 (0)), .pv (.str []), .pv (.int .i64 (0)), .pv (.int .i64 (0)), .pv (.int .i64 (0)), .pv (.int .i64 (0)), .pv (.int .i64 (0)), .pv (.str []), .pv (.int .i64 (0)), .pv (.int .i64 (0)), .pv (.int .i64 (0)), .pv (.int .i64 (0)), .pv (.int .i64 (0)), .pv (.str []), .pv (.int .i64 (0)), .pv (.int .i64 (0)), .pv (.int .i64 (0)), .pv (.int .i64 (0)), .pv (.int .i64 (0)), .pv (.str []), .pv (.int .i64 (0)), .pv (.int .i64 (0)), .pv (.int .i64 (0)), .pv (.int .i64 (0)), .pv (.int .i64 (0)), .pv (.str []), .pv (.int .i64 (0)), .pv (.int .i64 (0)), .pv (.int .i64 (0)), .pv (.int .i64 (0)), .pv (.int .i64 (0)), .pv (.str []), .pv (.int .i64 (0)), .pv (.int .i64 (0)), .pv (.int .i64 (0)), .pv (.int .i64 (0)), .pv (.int .i64 (0)), .pv (.str []), .pv (.int .i64 (0)), .pv (.int .i64 (0)), .pv (.int .i64 (0)), .pv (.int .i64 (0)), .pv (.int .i64 (0))], none, 0⟩] false)
 (.seq (.reg [⟨(some 1), .build [.pv (.str []), .pv (.int .i64 (0)), .pv (.int .i64 (0)), .pv (.int .i64 (0)), .pv (.int .i64 (0)), .pv (.int .i64 (0))] [(0, 1, .c (.pv (.str [110, 117, 108, 108, 116, 121, 112, 101])))], none, 0⟩,
 ⟨(some 2), .build [.pv (.str []), .pv (.int .i64 (0)), .pv (.int .i64 (0)), .pv (.int .i64 (0)), .pv (.int .i64 (0)), .pv (.int .i64 (0))] [(0, 1, .c (.pv (.str [109, 97, 114, 107, 116, 121, 112, 101])))], none, 0⟩,
 ⟨(some 3), .build [.pv (.str []), .pv (.int .i64 (0)), .pv (.int .i64 (0)), .pv (.int .i64 (0)), .pv (.int .i64 (0)), .pv (.int .i64 (0))] [(0, 1, .c (.pv (.str [98, 111, 111, 108, 101, 97, 110, 116, 121, 112, 101]))), (2, 1, .c (.pv (.int .i64 (1))))], none, 0⟩,
 ⟨(some 4), .build [.pv (.str []), .pv (.int .i64 (0)), .pv (.int .i64 (0)), .pv (.int .i64 (0)), .pv (.int .i64 (0)), .pv (.int .i64 (0))] [(0, 1, .c (.pv (.str [105, 110, 116, 101, 103, 101, 114, 116, 121, 112, 101]))), (1, 1, .c (.pv (.int .i64 (-2147483648)))), (2, 1, .c (.pv (.int .i64 (2147483647))))], none, 0⟩,
 ⟨(some 5), .build [.pv (.str []), .pv (.int .i64 (0)), .pv (.int .i64 (0)), .pv (.int .i64 (0)), .pv (.int .i64 (0)), .pv (.int .i64 (0))] [(0, 1, .c (.pv (.str [114, 101, 97, 108, 116, 121, 112, 101]))), (1, 1, .c (.pv (.int .i64 (-2147483648)))), (2, 1, .c (.pv (.int .i64 (2147483648))))], none, 0⟩,
 ⟨(some 6), .build [.pv (.str []), .pv (.int .i64 (0)), .pv (.int .i64 (0)), .pv (.int .i64 (0)), .pv (.int .i64 (0)), .pv (.int .i64 (0))] [(0, 1, .c (.pv (.str [110, 97, 109, 101, 116, 121, 112, 101]))), (4, 1, .c (.pv (.int .i64 (100))))], none, 0⟩,
 ⟨(some 7), .build [.pv (.str []), .pv (.int .i64 (0)), .pv (.int .i64 (0)), .pv (.int .i64 (0)), .pv (.int .i64 (0)), .pv (.int .i64 (0))] [(0, 1, .c (.pv (.str [115, 116, 114, 105, 110, 103, 116, 121, 112, 101]))), (5, 1, .c (.pv (.int .i64 (1))))], none, 0⟩,
 ⟨(some 8), .build [.pv (.str []), .pv (.int .i64 (0)), .pv (.int .i64 (0)), .pv (.int .i64 (0)), .pv (.int .i64 (0)), .pv (.int .i64 (0))] [(0, 1, .c (.pv (.str [97, 114, 114, 97, 121, 116, 121, 112, 101]))), (5, 1, .c (.pv (.int .i64 (2))))], none, 0⟩,
 ⟨(some 9), .build [.pv (.str []), .pv (.int .i64 (0)), .pv (.int .i64 (0)), .pv (.int .i64 (0)), .pv (.int .i64 (0)), .pv (.int .i64 (0))] [(0, 1, .c (.pv (.str [112, 97, 99, 107, 101, 100, 97, 114, 114, 97, 121, 116, 121, 112, 101]))), (5, 1, .c (.pv (.int .i64 (2))))], none, 0⟩,
 ⟨(some 10), .build [.pv (.str []), .pv (.int .i64 (0)), .pv (.int .i64 (0)), .pv (.int .i64 (0)), .pv (.int .i64 (0)), .pv (.int .i64 (0))] [(0, 1, .c (.pv (.str [100, 105, 99, 116, 116, 121, 112, 101]))), (5, 1, .c (.pv (.int .i64 (3))))], none, 0⟩,
 ⟨(some 11), .build [.pv (.str []), .pv (.int .i64 (0)), .pv (.int .i64 (0)), .pv (.int .i64 (0)), .pv (.int .i64 (0)), .pv (.int .i64 (0))] [(0, 1, .c (.pv (.str [111, 112, 101, 114, 97, 116, 111, 114, 116, 121, 112, 101]))), (3, 1, .c (.pv (.int .i64 (1)))), (4, 1, .c (.pv (.int .i64 (100))))], none, 0⟩,
 ⟨(some 12), .build [.pv (.str []), .pv (.int .i64 (0)), .pv (.int .i64 (0)), .pv (.int .i64 (0)), .pv (.int .i64 (0)), .pv (.int .i64 (0))] [(0, 1, .c (.pv (.str [102, 105, 108, 101, 116, 121, 112, 101]))), (5, 1, .c (.pv (.int .i64 (3))))], none, 0⟩,
 ⟨(some 13), .build [.pv (.str []), .pv (.int .i64 (0)), .pv (.int .i64 (0)), .pv (.int .i64 (0)), .pv (.int .i64 (0)), .pv (.int .i64 (0))] [(0, 1, .c (.pv (.str [115, 97, 118, 101, 116, 121, 112, 101]))), (1, 1, .c (.pv (.int .i64 (1)))), (2, 1, .c (.pv (.int .i64 (9223372036854775807))))], none, 0⟩,
 ⟨(some 14), .build [.pv (.str []), .pv (.int .i64 (0)), .pv (.int .i64 (0)), .pv (.int .i64 (0)), .pv (.int .i64 (0)), .pv (.int .i64 (0)), .pv (.str []), .pv (.int .i64 (0)), .pv (.int .i64 (0)), .pv (.int .i64 (0)), .pv (.int .i64 (0)), .pv (.int .i64 (0)), .pv (.str []), .pv (.int .i64 (0)), .pv (.int .i64 (0)), .pv (.int .i64 (0)), .pv (.int .i64 (0)), .pv (.int .i64 (0)), .pv (.str []), .pv (.int .i64 (0)), .pv (.int .i64 (0)), .pv (.int .i64 (0)), .pv (.int .i64 (0)), .pv (.int .i64 (0)), .pv (.str []), .pv (.int .i64 (0)), .pv (.int .i64 (0)), .pv (.int .i64 (0)), .pv (.int .i64 (0)), .pv (.int .i64 (0)), .pv (.str []), .pv (.int .i64 (0)), .pv (.int .i64 (0)), .pv (.int .i64 (0)), .pv (.int .i64 (0)), .pv (.int .i64 (0)), .pv (.str []), .pv (.int .i64 (0)), .pv (.int .i64 (0)), .pv (.int .i64 (0)), .pv (.int .i64 (0)), .pv (.int .i64 (0)), .pv (.str []), .pv (.int .i64 (0)), .pv (.int .i64 (0)), .pv (.int .i64 (0)), .pv (.int .i64 (0)), .pv (.int .i64 (0)), .pv (.str []), .pv (.int .i64 (0)), .pv (.int .i64 (0)), .pv (.int .i64 (0)), .pv (.int .i64 (0)), .pv (.int .i64 (0)), .pv (.str []), .pv (.int .i64 (0)), .pv (.int .i64 (0)), .pv (.int .i64 (0)), .pv (.int .i64 (0)), .pv (.int .i64 (0)), .pv (.str []), .pv (.int .i64 (0)), .pv (.int .i64 (0)), .pv (.int .i64 (0)), .pv (.int .i64 (0)), .pv (.int .i64 (0)), .pv (.str []), .pv (.int .i64 (0)), .pv (.int .i64 (0)), .pv (.int .i64 (0)), .pv (.int .i64 (0)), .pv (.int .i64 (0)), .pv (.str []), .pv (.int .i64 (0)), .pv (.int .i64 (0)), .pv (.int .i64 (0)), .pv (.int .i64 (0)), .pv (.int .i64 (0))] [(0, 6, .t 1), (6, 6, .t 2), (12, 6, .t 3), (18, 6, .t 4), (24, 6, .t 5), (30, 6, .t 6), (36, 6, .t 7), (42, 6, .t 8), (48, 6, .t 9), (54, 6, .t 10), (60, 6, .t 11), (66, 6, .t 12), (72, 6, .t 13)], none, 8191⟩,
 ⟨none, .store 78 (.t 0) (.t 14), none, 16383⟩] false)
 (.ret))⟩
def c_object_kind_number : RFn := ⟨2, 17, [.tmp 4],
 .seq (.reg [⟨(some 2), .box 6 (.t 0), none, 0⟩,
 ⟨(some 3), .box 7 (.t 1), none, 0⟩,
 ⟨(some 4), .mv (.c (.pv (.bool false))), none, 0⟩] false)
 (.seq (.reg [⟨(some 5), .faddr (.t 3) 2, none, 0⟩,
 ⟨(some 6), .load false 1 (.t 5), none, 1⟩,
 ⟨(some 7), .faddr (.t 2) 1, none, 0⟩,
 ⟨(some 8), .load false 1 (.t 7), none, 4⟩,
 ⟨(some 9), .bin .geq (.t 6) (.t 8), none, 15⟩,
 ⟨(some 10), .mv (.t 9), none, 31⟩,
 ⟨(some 11), .faddr (.t 3) 2, (some (10, true)), 63⟩,
 ⟨(some 12), .load false 1 (.t 11), (some (10, true)), 127⟩,
 ⟨(some 13), .faddr (.t 2) 2, (some (10, true)), 63⟩,
 ⟨(some 14), .load false 1 (.t 13), (some (10, true)), 319⟩,
 ⟨(some 15), .bin .leq (.t 12) (.t 14), (some (10, true)), 1023⟩,
 ⟨(some 16), .pick (.t 10) (.t 15) (.c (.pv (.bool false))), none, 2047⟩,
 ⟨(some 4), .mv (.t 16), none, 4095⟩] false)
 (.ret))⟩
def c_object_kind_named : RFn := ⟨2, 19, [.tmp 4],
 .seq (.reg [⟨(some 2), .box 6 (.t 0), none, 0⟩,
 ⟨(some 3), .box 7 (.t 1), none, 0⟩,
 ⟨(some 4), .mv (.c (.pv (.bool false))), none, 0⟩] false)
 (.seq (.reg [⟨(some 5), .faddr (.t 3) 3, none, 0⟩,
 ⟨(some 6), .load false 1 (.t 5), none, 1⟩,
 ⟨(some 7), .strlen (.t 6), none, 3⟩,
 ⟨(some 8), .faddr (.t 2) 3, none, 0⟩,
 ⟨(some 9), .load false 1 (.t 8), none, 8⟩,
 ⟨(some 10), .bin .geq (.t 7) (.t 9), none, 31⟩,
 ⟨(some 11), .mv (.t 10), none, 63⟩,
 ⟨(some 12), .faddr (.t 3) 3, (some (11, true)), 127⟩,
 ⟨(some 13), .load false 1 (.t 12), (some (11, true)), 255⟩,
 ⟨(some 14), .strlen (.t 13), (some (11, true)), 511⟩,
 ⟨(some 15), .faddr (.t 2) 4, (some (11, true)), 127⟩,
 ⟨(some 16), .load false 1 (.t 15), (some (11, true)), 1151⟩,
 ⟨(some 17), .bin .leq (.t 14) (.t 16), (some (11, true)), 4095⟩,
 ⟨(some 18), .pick (.t 11) (.t 17) (.c (.pv (.bool false))), none, 8191⟩,
 ⟨(some 4), .mv (.t 18), none, 16383⟩] false)
 (.ret))⟩
def c_object_kind_referring : RFn := ⟨2, 57, [.tmp 4],
 .seq (.reg [⟨(some 2), .box 6 (.t 0), none, 0⟩,
 ⟨(some 3), .box 7 (.t 1), none, 0⟩,
 ⟨(some 4), .mv (.c (.pv (.bool false))), none, 0⟩] false)
 (.seq (.seq (.reg [⟨(some 6), .faddr (.t 2) 5, none, 0⟩,
 ⟨(some 7), .load false 1 (.t 6), none, 1⟩,
 ⟨(some 8), .bin .eql (.t 7) (.c (.pv (.int .i64 (0)))), none, 3⟩] false)
 (.cond (.t 8)
 (.seq (.reg [⟨(some 9), .faddr (.t 3) 4, none, 0⟩,
 ⟨(some 10), .load false 1 (.t 9), none, 1⟩,
 ⟨(some 11), .bin .eql (.t 10) (.c (.pv (.int .i64 (0)))), none, 3⟩,
 ⟨(some 12), .mv (.t 11), none, 7⟩,
 ⟨(some 13), .faddr (.t 3) 5, (some (12, true)), 15⟩,
 ⟨(some 14), .load false 1 (.t 13), (some (12, true)), 31⟩,
 ⟨(some 15), .bin .eql (.t 14) (.c (.pv (.int .i64 (0)))), (some (12, true)), 63⟩,
 ⟨(some 16), .pick (.t 12) (.t 15) (.c (.pv (.bool false))), none, 127⟩,
 ⟨(some 17), .mv (.t 16), none, 255⟩,
 ⟨(some 18), .faddr (.t 3) 6, (some (17, true)), 511⟩,
 ⟨(some 19), .load false 1 (.t 18), (some (17, true)), 1023⟩,
 ⟨(some 20), .bin .eql (.t 19) (.c (.pv (.int .i64 (0)))), (some (17, true)), 2047⟩,
 ⟨(some 21), .pick (.t 17) (.t 20) (.c (.pv (.bool false))), none, 4095⟩,
 ⟨(some 4), .mv (.t 21), none, 8191⟩] false)
 (.ret))
 (.skip)))
 (.seq (.reg [⟨(some 22), .load true 6 (.t 2), none, 0⟩,
 ⟨(some 23), .call (.f n_object_kind_longest) [.t 22], none, 1⟩,
 ⟨(some 5), .mv (.t 23), none, 3⟩] false)
 (.seq (.reg [⟨(some 24), .faddr (.t 3) 4, none, 0⟩,
 ⟨(some 25), .load false 1 (.t 24), none, 1⟩,
 ⟨(some 26), .bin .geq (.t 25) (.c (.pv (.int .i64 (0)))), none, 3⟩,
 ⟨(some 27), .mv (.t 26), none, 7⟩,
 ⟨(some 28), .faddr (.t 3) 4, (some (27, true)), 15⟩,
 ⟨(some 29), .load false 1 (.t 28), (some (27, true)), 31⟩,
 ⟨(some 30), .bin .leq (.t 29) (.c (.pv (.int .i64 (20000)))), (some (27, true)), 63⟩,
 ⟨(some 31), .pick (.t 27) (.t 30) (.c (.pv (.bool false))), none, 127⟩,
 ⟨(some 32), .mv (.t 31), none, 255⟩,
 ⟨(some 33), .faddr (.t 3) 5, (some (32, true)), 511⟩,
 ⟨(some 34), .load false 1 (.t 33), (some (32, true)), 1023⟩,
 ⟨(some 35), .bin .geq (.t 34) (.c (.pv (.int .i64 (0)))), (some (32, true)), 2047⟩,
 ⟨(some 36), .pick (.t 32) (.t 35) (.c (.pv (.bool false))), none, 4095⟩,
 ⟨(some 37), .mv (.t 36), none, 8191⟩,
 ⟨(some 38), .faddr (.t 3) 6, (some (37, true)), 16383⟩,
 ⟨(some 39), .load false 1 (.t 38), (some (37, true)), 32767⟩,
 ⟨(some 40), .bin .geq (.t 39) (.c (.pv (.int .i64 (0)))), (some (37, true)), 65535⟩,
 ⟨(some 41), .pick (.t 37) (.t 40) (.c (.pv (.bool false))), none, 131071⟩,
 ⟨(some 42), .mv (.t 41), none, 262143⟩,
 ⟨(some 43), .faddr (.t 3) 5, (some (42, true)), 524287⟩,
 ⟨(some 44), .load false 1 (.t 43), (some (42, true)), 1048575⟩,
 ⟨(some 45), .mv (.t 5), (some (42, true)), 524287⟩,
 ⟨(some 46), .bin .leq (.t 44) (.t 45), (some (42, true)), 4194303⟩,
 ⟨(some 47), .pick (.t 42) (.t 46) (.c (.pv (.bool false))), none, 8388607⟩,
 ⟨(some 48), .mv (.t 47), none, 16777215⟩,
 ⟨(some 49), .faddr (.t 3) 6, (some (48, true)), 33554431⟩,
 ⟨(some 50), .load false 1 (.t 49), (some (48, true)), 67108863⟩,
 ⟨(some 51), .mv (.t 5), (some (48, true)), 33554431⟩,
 ⟨(some 52), .faddr (.t 3) 5, (some (48, true)), 33554431⟩,
 ⟨(some 53), .load false 1 (.t 52), (some (48, true)), 301989887⟩,
 ⟨(some 54), .bin .sub (.t 51) (.t 53), (some (48, true)), 973078527⟩,
 ⟨(some 55), .bin .leq (.t 50) (.t 54), (some (48, true)), 2147483647⟩,
 ⟨(some 56), .pick (.t 48) (.t 55) (.c (.pv (.bool false))), none, 4294967295⟩,
 ⟨(some 4), .mv (.t 56), none, 8589934591⟩] false)
 (.ret))))⟩
def c_object_Value : RFn := ⟨1, 16, [.tmp 2, .tmp 3],
 .seq (.reg [⟨(some 1), .box 7 (.t 0), none, 0⟩,
 ⟨(some 2), .mv (.c (.pv (.int .i64 (0)))), none, 0⟩,
 ⟨(some 3), .mv (.c (.pv (.int .i64 (0)))), none, 2⟩] false)
 (.seq (.reg [⟨(some 7), .load true 7 (.t 1), none, 0⟩,
 ⟨(some 8), .call (.f n_object_numberOf) [.t 7], none, 1⟩,
 ⟨(some 6), .mv (.t 8), none, 3⟩,
 ⟨(some 9), .extract (.t 6) 0, none, 7⟩,
 ⟨(some 10), .extract (.t 6) 1, none, 7⟩,
 ⟨(some 4), .alloc [.pv (.int .i64 (0)), .pv (.bool false), .pv (.int .i64 (0)), .pv (.str []), .pv (.int .i64 (0)), .pv (.int .i64 (0)), .pv (.int .i64 (0))], none, 0⟩,
 ⟨none, .store 7 (.t 4) (.t 9), none, 47⟩,
 ⟨(some 5), .mv (.t 10), none, 127⟩] false)
 (.seq (.seq (.reg [⟨(some 11), .mv (.t 5), none, 0⟩,
 ⟨(some 12), .bin .neq (.t 11) (.c (.pv (.int .i64 (0)))), none, 1⟩] false)
 (.cond (.t 12)
 (.seq (.reg [⟨(some 13), .mv (.t 5), none, 0⟩,
 ⟨(some 2), .mv (.c (.pv (.int .i64 (0)))), none, 0⟩,
 ⟨(some 3), .mv (.t 13), none, 3⟩] false)
 (.ret))
 (.skip)))
 (.seq (.reg [⟨(some 14), .load true 7 (.t 4), none, 0⟩,
 ⟨(some 15), .call (.f n_object_number_value) [.t 14], none, 1⟩,
 ⟨(some 2), .mv (.t 15), none, 3⟩,
 ⟨(some 3), .mv (.c (.pv (.int .i64 (0)))), none, 7⟩] false)
 (.ret))))⟩
def c_object_ToInt : RFn := ⟨1, 20, [.cell 2 true 7, .tmp 3],
 .seq (.reg [⟨(some 1), .box 7 (.t 0), none, 0⟩,
 ⟨(some 2), .alloc [.pv (.int .i64 (0)), .pv (.bool false), .pv (.int .i64 (0)), .pv (.str []), .pv (.int .i64 (0)), .pv (.int .i64 (0)), .pv (.int .i64 (0))], none, 0⟩,
 ⟨(some 3), .mv (.c (.pv (.int .i64 (0)))), none, 0⟩] false)
 (.seq (.reg [⟨(some 7), .load true 7 (.t 1), none, 0⟩,
 ⟨(some 8), .call (.f n_object_Value) [.t 7], none, 1⟩,
 ⟨(some 6), .mv (.t 8), none, 3⟩,
 ⟨(some 9), .extract (.t 6) 0, none, 7⟩,
 ⟨(some 10), .extract (.t 6) 1, none, 7⟩,
 ⟨(some 4), .mv (.t 9), none, 15⟩,
 ⟨(some 5), .mv (.t 10), none, 63⟩] false)
 (.seq (.seq (.reg [⟨(some 11), .mv (.t 5), none, 0⟩,
 ⟨(some 12), .bin .neq (.t 11) (.c (.pv (.int .i64 (0)))), none, 1⟩] false)
 (.cond (.t 12)
 (.seq (.reg [⟨(some 13), .build [.pv (.int .i64 (0)), .pv (.bool false), .pv (.int .i64 (0)), .pv (.str []), .pv (.int .i64 (0)), .pv (.int .i64 (0)), .pv (.int .i64 (0))] [], none, 0⟩,
 ⟨(some 14), .mv (.t 5), none, 0⟩,
 ⟨none, .store 7 (.t 2) (.t 13), none, 1⟩,
 ⟨(some 3), .mv (.t 14), none, 7⟩] false)
 (.ret))
 (.skip)))
 (.seq (.reg [⟨(some 15), .mv (.t 4), none, 0⟩,
 ⟨(some 16), .bin .quo (.t 15) (.c (.pv (.int .i64 (65536)))), none, 1⟩,
 ⟨(some 17), .call (.f n_object_Int) [.t 16], none, 3⟩,
 ⟨(some 18), .extract (.t 17) 0, none, 7⟩,
 ⟨(some 19), .extract (.t 17) 1, none, 7⟩,
 ⟨none, .store 7 (.t 2) (.t 18), none, 31⟩,
 ⟨(some 3), .mv (.t 19), none, 63⟩] false)
 (.ret))))⟩
def c_object_made_string : RFn := ⟨2, 15, [.cell 4 true 7, .tmp 5],
 .seq (.reg [⟨(some 4), .alloc [.pv (.int .i64 (0)), .pv (.bool false), .pv (.int .i64 (0)), .pv (.str []), .pv (.int .i64 (0)), .pv (.int .i64 (0)), .pv (.int .i64 (0))], none, 0⟩,
 ⟨(some 5), .mv (.c (.pv (.int .i64 (0)))), none, 0⟩] false)
 (.seq (.reg [⟨(some 7), .mv (.t 1), none, 0⟩,
 ⟨(some 8), .mv (.t 0), none, 0⟩,
 ⟨(some 9), .call (.t 7) [.t 8], none, 3⟩,
 ⟨(some 6), .alloc [.pv (.int .i64 (0)), .pv (.bool false), .pv (.int .i64 (0)), .pv (.str []), .pv (.int .i64 (0)), .pv (.int .i64 (0)), .pv (.int .i64 (0))], none, 0⟩,
 ⟨none, .store 7 (.t 6) (.t 9), none, 15⟩] false)
 (.seq (.seq (.reg [⟨(some 10), .load true 7 (.t 6), none, 0⟩,
 ⟨(some 11), .call (.f n_object_Check) [.t 10], none, 1⟩,
 ⟨(some 12), .bin .neq (.t 11) (.c (.pv (.int .i64 (0)))), none, 3⟩] false)
 (.cond (.t 12)
 (.seq (.reg [⟨(some 13), .build [.pv (.int .i64 (0)), .pv (.bool false), .pv (.int .i64 (0)), .pv (.str []), .pv (.int .i64 (0)), .pv (.int .i64 (0)), .pv (.int .i64 (0))] [], none, 0⟩,
 ⟨none, .store 7 (.t 4) (.t 13), none, 1⟩,
 ⟨(some 5), .mv (.c (.pv (.int .i64 (2)))), none, 3⟩] false)
 (.ret))
 (.skip)))
 (.seq (.reg [⟨(some 14), .load true 7 (.t 6), none, 0⟩,
 ⟨none, .store 7 (.t 4) (.t 14), none, 1⟩,
 ⟨(some 5), .mv (.c (.pv (.int .i64 (0)))), none, 3⟩] false)
 (.ret))))⟩
def c_object_Name_1 : RFn := ⟨2, 7, [.cell 3 true 7],
 .seq (.reg [⟨(some 3), .alloc [.pv (.int .i64 (0)), .pv (.bool false), .pv (.int .i64 (0)), .pv (.str []), .pv (.int .i64 (0)), .pv (.int .i64 (0)), .pv (.int .i64 (0))], none, 0⟩] false)
 (.seq (.reg [⟨(some 4), .mv (.t 0), none, 0⟩,
 ⟨(some 5), .load false 1 (.t 1), none, 0⟩,
 ⟨(some 6), .build [.pv (.int .i64 (0)), .pv (.bool false), .pv (.int .i64 (0)), .pv (.str []), .pv (.int .i64 (0)), .pv (.int .i64 (0)), .pv (.int .i64 (0))] [(0, 1, .c (.pv (.int .i64 (5)))), (3, 1, .t 4), (1, 1, .t 5)], none, 3⟩,
 ⟨none, .store 7 (.t 3) (.t 6), none, 7⟩] false)
 (.ret))⟩
def c_ref10_ToInt : RFn := ⟨1, 16, [.cell 2 true 7],
 .seq (.reg [⟨(some 1), .box 7 (.t 0), none, 0⟩,
 ⟨(some 2), .alloc [.pv (.int .i64 (0)), .pv (.bool false), .pv (.int .i64 (0)), .pv (.str []), .pv (.int .i64 (0)), .pv (.int .i64 (0)), .pv (.int .i64 (0))], none, 0⟩] false)
 (.seq (.reg [⟨(some 4), .load true 7 (.t 1), none, 0⟩,
 ⟨(some 5), .call (.f n_ref10_Value) [.t 4], none, 1⟩,
 ⟨(some 3), .mv (.t 5), none, 3⟩] false)
 (.seq (.seq (.reg [⟨(some 6), .mv (.t 3), none, 0⟩,
 ⟨(some 7), .bin .lss (.t 6) (.c (.pv (.int .i64 (0)))), none, 1⟩] false)
 (.cond (.t 7)
 (.seq (.reg [⟨(some 8), .mv (.t 3), none, 0⟩,
 ⟨(some 9), .neg (.t 8), none, 1⟩,
 ⟨(some 10), .bin .quo (.t 9) (.c (.pv (.int .i64 (65536)))), none, 3⟩,
 ⟨(some 11), .neg (.t 10), none, 7⟩,
 ⟨(some 12), .call (.f n_ref10_Int) [.t 11], none, 15⟩,
 ⟨none, .store 7 (.t 2) (.t 12), none, 31⟩] false)
 (.ret))
 (.skip)))
 (.seq (.reg [⟨(some 13), .mv (.t 3), none, 0⟩,
 ⟨(some 14), .bin .quo (.t 13) (.c (.pv (.int .i64 (65536)))), none, 1⟩,
 ⟨(some 15), .call (.f n_ref10_Int) [.t 14], none, 3⟩,
 ⟨none, .store 7 (.t 2) (.t 15), none, 7⟩] false)
 (.ret))))⟩
def c_resource_suits : RFn := ⟨2, 26, [.tmp 4],
 .seq (.reg [⟨(some 3), .box 7 (.t 1), none, 0⟩,
 ⟨(some 4), .mv (.c (.pv (.bool false))), none, 0⟩] false)
 (.scope
 (.seq (.reg [⟨(some 5), .mv (.c (.pv (.bool true))), none, 0⟩] false)
 (.seq (.skip)
 (.seq (.seq (.reg [⟨(some 8), .build [.pv (.str []), .pv .nilFunc] [(0, 1, .c (.pv (.str [70, 111, 110, 116]))), (1, 1, .f n_resource_isDict)], none, 0⟩,
 ⟨(some 9), .build [.pv (.str []), .pv .nilFunc] [(0, 1, .c (.pv (.str [80, 97, 116, 116, 101, 114, 110]))), (1, 1, .f n_resource_isDict)], none, 0⟩,
 ⟨(some 10), .build [.pv (.str []), .pv .nilFunc] [(0, 1, .c (.pv (.str [70, 111, 114, 109]))), (1, 1, .f n_resource_isDict)], none, 0⟩,
 ⟨(some 11), .build [.pv (.str []), .pv .nilFunc] [(0, 1, .c (.pv (.str [69, 110, 99, 111, 100, 105, 110, 103]))), (1, 1, .f n_resource_isArray)], none, 0⟩,
 ⟨(some 12), .build [.pv (.str []), .pv .nilFunc, .pv (.str []), .pv .nilFunc, .pv (.str []), .pv .nilFunc, .pv (.str []), .pv .nilFunc] [(0, 2, .t 8), (2, 2, .t 9), (4, 2, .t 10), (6, 2, .t 11)], none, 15⟩,
 ⟨(some 13), .mv (.c (.pv (.int .i64 (0)))), none, 0⟩] false)
 (.block 0
 (.loop [0, 3, 5, 12, 13]
 (.seq (.reg [⟨(some 14), .bin .lss (.t 13) (.c (.pv (.int .i64 (4)))), none, 0⟩] false)
 (.seq (.cond (.t 14)
 (.skip)
 (.exit 0))
 (.seq (.block 1
 (.seq (.reg [⟨(some 15), .index true 4 2 (.t 12) (.t 13), none, 0⟩,
 ⟨(some 7), .alloc [.pv (.str []), .pv .nilFunc], none, 0⟩,
 ⟨none, .store 2 (.t 7) (.t 15), none, 3⟩] false)
 (.seq (.reg [⟨(some 16), .faddr (.t 7) 0, none, 0⟩,
 ⟨(some 17), .load false 1 (.t 16), none, 1⟩,
 ⟨(some 18), .mv (.t 0), none, 0⟩,
 ⟨(some 19), .bin .eql (.t 17) (.t 18), none, 7⟩] false)
 (.cond (.t 19)
 (.seq (.reg [⟨(some 20), .faddr (.t 7) 1, none, 0⟩,
 ⟨(some 21), .load false 1 (.t 20), none, 1⟩,
 ⟨(some 22), .load true 7 (.t 3), none, 0⟩,
 ⟨(some 23), .call (.t 21) [.t 22], none, 7⟩,
 ⟨(some 5), .mv (.t 23), none, 15⟩] false)
 (.exit 0))
 (.skip)))))
 (.reg [⟨(some 24), .bin .add (.t 13) (.c (.pv (.int .i64 (1)))), none, 0⟩,
 ⟨(some 13), .mv (.t 24), none, 1⟩] false)))))))
 (.seq (.reg [⟨(some 25), .mv (.t 5), none, 0⟩,
 ⟨(some 4), .mv (.t 25), none, 1⟩] false)
 (.ret))))))⟩
def c_resource_library_done : RFn := ⟨4, 40, [.cell 8 true 67, .tmp 9],
 .seq (.reg [⟨(some 4), .box 67 (.t 0), none, 0⟩,
 ⟨(some 5), .box 29 (.t 1), none, 0⟩,
 ⟨(some 8), .alloc [.emp 7, .emp 7, .emp 7, .emp 3, .pv (.int .i64 (0)), .pv (.int .i64 (0)), .pv (.int .i64 (0)), .pv (.int .i64 (0)), .pv (.int .i64 (0)), .pv (.int .i64 (0)), .pv (.int .i64 (0)), .emp 7, .pv (.int .i64 (0)), .pv (.int .i64 (0)), .pv (.int .i64 (0)), .pv (.int .i64 (0)), .pv (.int .i64 (0)), .pv (.int .i64 (0)), .pv (.int .i64 (0)), .pv (.int .i64 (0)), .pv (.int .i64 (0)), .pv (.int .i64 (0)), .pv (.int .i64 (0)), .pv (.int .i64 (0)), .pv (.int .i64 (0)), .pv (.int .i64 (0)), .pv (.int .i64 (0)), .pv (.int .i64 (0)), .pv (.int .i64 (0)), .pv (.int .i64 (0)), .pv (.int .i64 (0)), .pv (.int .i64 (0)), .pv (.bool false), .pv (.bool false), .emp 47, .pv (.int .i64 (0)), .pv (.int .i64 (0)), .pv (.int .i64 (0)), .pv (.int .i64 (0)), .pv (.int .i64 (0)), .pv (.int .i64 (0)), .pv (.int .i64 (0)), .pv (.int .i64 (0)), .emp 1, .pv (.int .i64 (0)), .pv (.int .i64 (0)), .emp 2, .pv (.int .i64 (0)), .pv (.bool false), .pv (.int .i64 (0)), .pv (.str []), .pv (.int .i64 (0)), .pv (.int .i64 (0)), .pv (.int .i64 (0)), .pv (.int .i64 (0)), .pv (.int .i64 (0)), .pv (.int .i64 (0)), .pv (.int .i64 (0)), .pv (.int .i64 (0)), .pv (.int .i64 (0)), .pv (.int .i64 (0)), .pv (.int .i64 (0)), .emp 57, .emp 47, .emp 3, .pv (.str []), .pv (.int .i64 (0))], none, 0⟩,
 ⟨(some 9), .mv (.c (.pv (.int .i64 (0)))), none, 0⟩] false)
 (.seq (.reg [⟨(some 14), .faddr (.t 4) 0, none, 0⟩,
 ⟨(some 15), .load true 67 (.t 14), none, 1⟩,
 ⟨(some 16), .faddr (.t 5) 28, none, 0⟩,
 ⟨(some 17), .load false 1 (.t 16), none, 4⟩,
 ⟨(some 18), .call (.f n_stack_Drop) [.t 15, .t 17], none, 15⟩,
 ⟨(some 13), .mv (.t 18), none, 31⟩,
 ⟨(some 19), .extract (.t 13) 0, none, 63⟩,
 ⟨(some 20), .extract (.t 13) 1, none, 63⟩,
 ⟨(some 10), .alloc [.emp 7, .emp 7, .emp 7, .emp 3, .pv (.int .i64 (0)), .pv (.int .i64 (0)), .pv (.int .i64 (0)), .pv (.int .i64 (0)), .pv (.int .i64 (0)), .pv (.int .i64 (0)), .pv (.int .i64 (0)), .emp 7, .pv (.int .i64 (0)), .pv (.int .i64 (0)), .pv (.int .i64 (0)), .pv (.int .i64 (0)), .pv (.int .i64 (0)), .pv (.int .i64 (0)), .pv (.int .i64 (0)), .pv (.int .i64 (0)), .pv (.int .i64 (0)), .pv (.int .i64 (0)), .pv (.int .i64 (0)), .pv (.int .i64 (0)), .pv (.int .i64 (0)), .pv (.int .i64 (0)), .pv (.int .i64 (0)), .pv (.int .i64 (0)), .pv (.int .i64 (0)), .pv (.int .i64 (0)), .pv (.int .i64 (0)), .pv (.int .i64 (0)), .pv (.bool false), .pv (.bool false), .emp 47, .pv (.int .i64 (0)), .pv (.int .i64 (0)), .pv (.int .i64 (0)), .pv (.int .i64 (0)), .pv (.int .i64 (0)), .pv (.int .i64 (0)), .pv (.int .i64 (0)), .pv (.int .i64 (0)), .emp 1, .pv (.int .i64 (0)), .pv (.int .i64 (0)), .emp 2, .pv (.int .i64 (0)), .pv (.bool false), .pv (.int .i64 (0)), .pv (.str []), .pv (.int .i64 (0)), .pv (.int .i64 (0)), .pv (.int .i64 (0)), .pv (.int .i64 (0)), .pv (.int .i64 (0)), .pv (.int .i64 (0)), .pv (.int .i64 (0)), .pv (.int .i64 (0)), .pv (.int .i64 (0)), .pv (.int .i64 (0)), .pv (.int .i64 (0)), .emp 57, .emp 47, .emp 3, .pv (.str []), .pv (.int .i64 (0))], none, 0⟩,
 ⟨none, .store 67 (.t 10) (.t 19), none, 383⟩,
 ⟨(some 11), .mv (.t 20), none, 1023⟩] false)
 (.seq (.seq (.reg [⟨(some 21), .mv (.t 11), none, 0⟩,
 ⟨(some 22), .bin .neq (.t 21) (.c (.pv (.int .i64 (0)))), none, 1⟩] false)
 (.cond (.t 22)
 (.seq (.reg [⟨(some 23), .faddr (.t 4) 0, none, 0⟩,
 ⟨(some 24), .load true 67 (.t 23), none, 1⟩,
 ⟨(some 25), .mv (.t 11), none, 0⟩,
 ⟨none, .store 67 (.t 8) (.t 24), none, 3⟩,
 ⟨(some 9), .mv (.t 25), none, 15⟩] false)
 (.ret))
 (.skip)))
 (.seq (.reg [⟨(some 27), .load true 67 (.t 10), none, 0⟩,
 ⟨(some 28), .mv (.t 3), none, 0⟩,
 ⟨(some 29), .call (.f n_stack_Push) [.t 27, .t 28], none, 3⟩,
 ⟨(some 26), .mv (.t 29), none, 7⟩,
 ⟨(some 30), .extract (.t 26) 0, none, 15⟩,
 ⟨(some 31), .extract (.t 26) 1, none, 15⟩,
 ⟨(some 12), .alloc [.emp 7, .emp 7, .emp 7, .emp 3, .pv (.int .i64 (0)), .pv (.int .i64 (0)), .pv (.int .i64 (0)), .pv (.int .i64 (0)), .pv (.int .i64 (0)), .pv (.int .i64 (0)), .pv (.int .i64 (0)), .emp 7, .pv (.int .i64 (0)), .pv (.int .i64 (0)), .pv (.int .i64 (0)), .pv (.int .i64 (0)), .pv (.int .i64 (0)), .pv (.int .i64 (0)), .pv (.int .i64 (0)), .pv (.int .i64 (0)), .pv (.int .i64 (0)), .pv (.int .i64 (0)), .pv (.int .i64 (0)), .pv (.int .i64 (0)), .pv (.int .i64 (0)), .pv (.int .i64 (0)), .pv (.int .i64 (0)), .pv (.int .i64 (0)), .pv (.int .i64 (0)), .pv (.int .i64 (0)), .pv (.int .i64 (0)), .pv (.int .i64 (0)), .pv (.bool false), .pv (.bool false), .emp 47, .pv (.int .i64 (0)), .pv (.int .i64 (0)), .pv (.int .i64 (0)), .pv (.int .i64 (0)), .pv (.int .i64 (0)), .pv (.int .i64 (0)), .pv (.int .i64 (0)), .pv (.int .i64 (0)), .emp 1, .pv (.int .i64 (0)), .pv (.int .i64 (0)), .emp 2, .pv (.int .i64 (0)), .pv (.bool false), .pv (.int .i64 (0)), .pv (.str []), .pv (.int .i64 (0)), .pv (.int .i64 (0)), .pv (.int .i64 (0)), .pv (.int .i64 (0)), .pv (.int .i64 (0)), .pv (.int .i64 (0)), .pv (.int .i64 (0)), .pv (.int .i64 (0)), .pv (.int .i64 (0)), .pv (.int .i64 (0)), .pv (.int .i64 (0)), .emp 57, .emp 47, .emp 3, .pv (.str []), .pv (.int .i64 (0))], none, 0⟩,
 ⟨none, .store 67 (.t 12) (.t 30), none, 95⟩,
 ⟨(some 11), .mv (.t 31), none, 255⟩] false)
 (.seq (.seq (.reg [⟨(some 32), .mv (.t 11), none, 0⟩,
 ⟨(some 33), .bin .neq (.t 32) (.c (.pv (.int .i64 (0)))), none, 1⟩] false)
 (.cond (.t 33)
 (.seq (.reg [⟨(some 34), .faddr (.t 4) 0, none, 0⟩,
 ⟨(some 35), .load true 67 (.t 34), none, 1⟩,
 ⟨(some 36), .mv (.t 11), none, 0⟩,
 ⟨none, .store 67 (.t 8) (.t 35), none, 3⟩,
 ⟨(some 9), .mv (.t 36), none, 15⟩] false)
 (.ret))
 (.skip)))
 (.seq (.reg [⟨(some 37), .mv (.t 2), none, 0⟩,
 ⟨(some 38), .faddr (.t 12) 2, none, 1⟩,
 ⟨none, .store 1 (.t 38) (.t 37), none, 3⟩] false)
 (.seq (.reg [⟨(some 39), .load true 67 (.t 12), none, 0⟩,
 ⟨none, .store 67 (.t 8) (.t 39), none, 1⟩,
 ⟨(some 9), .mv (.c (.pv (.int .i64 (0)))), none, 3⟩] false)
 (.ret)))))))⟩
def c_slices_Contains_int : RFn := ⟨2, 9, [.tmp 4],
 .seq (.reg [⟨(some 4), .mv (.c (.pv (.bool false))), none, 0⟩] false)
 (.seq (.reg [⟨(some 5), .mv (.t 0), none, 0⟩,
 ⟨(some 6), .mv (.t 1), none, 0⟩,
 ⟨(some 7), .call (.f n_slices_Index_int) [.t 5, .t 6], none, 3⟩,
 ⟨(some 8), .bin .geq (.t 7) (.c (.pv (.int .i64 (0)))), none, 7⟩,
 ⟨(some 4), .mv (.t 8), none, 15⟩] false)
 (.ret))⟩
def c_object_kind_longest : RFn := ⟨1, 7, [.tmp 2],
 .seq (.reg [⟨(some 1), .box 6 (.t 0), none, 0⟩,
 ⟨(some 2), .mv (.c (.pv (.int .i64 (0)))), none, 0⟩] false)
 (.seq (.reg [⟨(some 3), .build [.pv (.int .i64 (0)), .pv (.int .i64 (0)), .pv (.int .i64 (0)), .pv (.int .i64 (0))] [(0, 1, .c (.pv (.int .i64 (0)))), (1, 1, .c (.pv (.int .i64 (1000)))), (2, 1, .c (.pv (.int .i64 (1000)))), (3, 1, .c (.pv (.int .i64 (0))))], none, 0⟩,
 ⟨(some 4), .faddr (.t 1) 5, none, 0⟩,
 ⟨(some 5), .load false 1 (.t 4), none, 2⟩,
 ⟨(some 6), .index false 4 1 (.t 3) (.t 5), none, 7⟩,
 ⟨(some 2), .mv (.t 6), none, 15⟩] false)
 (.ret))⟩
def c_object_numberOf : RFn := ⟨1, 22, [.cell 2 true 7, .tmp 3],
 .seq (.reg [⟨(some 1), .box 7 (.t 0), none, 0⟩,
 ⟨(some 2), .alloc [.pv (.int .i64 (0)), .pv (.bool false), .pv (.int .i64 (0)), .pv (.str []), .pv (.int .i64 (0)), .pv (.int .i64 (0)), .pv (.int .i64 (0))], none, 0⟩,
 ⟨(some 3), .mv (.c (.pv (.int .i64 (0)))), none, 0⟩] false)
 (.seq (.seq (.reg [⟨(some 5), .load true 7 (.t 1), none, 0⟩,
 ⟨(some 6), .call (.f n_object_Check) [.t 5], none, 1⟩,
 ⟨(some 4), .mv (.t 6), none, 3⟩] false)
 (.seq (.reg [⟨(some 7), .mv (.t 4), none, 0⟩,
 ⟨(some 8), .bin .neq (.t 7) (.c (.pv (.int .i64 (0)))), none, 1⟩] false)
 (.cond (.t 8)
 (.seq (.reg [⟨(some 9), .build [.pv (.int .i64 (0)), .pv (.bool false), .pv (.int .i64 (0)), .pv (.str []), .pv (.int .i64 (0)), .pv (.int .i64 (0)), .pv (.int .i64 (0))] [], none, 0⟩,
 ⟨(some 10), .mv (.t 4), none, 0⟩,
 ⟨none, .store 7 (.t 2) (.t 9), none, 1⟩,
 ⟨(some 3), .mv (.t 10), none, 7⟩] false)
 (.ret))
 (.skip))))
 (.seq (.seq (.reg [⟨(some 11), .faddr (.t 1) 0, none, 0⟩,
 ⟨(some 12), .load false 1 (.t 11), none, 1⟩,
 ⟨(some 13), .bin .neq (.t 12) (.c (.pv (.int .i64 (3)))), none, 3⟩,
 ⟨(some 14), .mv (.t 13), none, 7⟩,
 ⟨(some 15), .faddr (.t 1) 0, (some (14, true)), 15⟩,
 ⟨(some 16), .load false 1 (.t 15), (some (14, true)), 31⟩,
 ⟨(some 17), .bin .neq (.t 16) (.c (.pv (.int .i64 (4)))), (some (14, true)), 63⟩,
 ⟨(some 18), .pick (.t 14) (.t 17) (.c (.pv (.bool false))), none, 127⟩] false)
 (.cond (.t 18)
 (.seq (.reg [⟨(some 19), .build [.pv (.int .i64 (0)), .pv (.bool false), .pv (.int .i64 (0)), .pv (.str []), .pv (.int .i64 (0)), .pv (.int .i64 (0)), .pv (.int .i64 (0))] [], none, 0⟩,
 ⟨none, .store 7 (.t 2) (.t 19), none, 1⟩,
 ⟨(some 3), .mv (.c (.pv (.int .i64 (22)))), none, 3⟩] false)
 (.ret))
 (.skip)))
 (.seq (.reg [⟨(some 20), .load true 7 (.t 1), none, 0⟩,
 ⟨(some 21), .build [.pv (.int .i64 (0)), .pv (.bool false), .pv (.int .i64 (0)), .pv (.str []), .pv (.int .i64 (0)), .pv (.int .i64 (0)), .pv (.int .i64 (0))] [(0, 7, .t 20)], none, 1⟩,
 ⟨none, .store 7 (.t 2) (.t 21), none, 3⟩,
 ⟨(some 3), .mv (.c (.pv (.int .i64 (0)))), none, 7⟩] false)
 (.ret))))⟩
def c_object_number_value : RFn := ⟨1, 14, [.tmp 2],
 .seq (.reg [⟨(some 1), .box 7 (.t 0), none, 0⟩,
 ⟨(some 2), .mv (.c (.pv (.int .i64 (0)))), none, 0⟩] false)
 (.seq (.seq (.reg [⟨(some 3), .faddr (.t 1) 0, none, 0⟩,
 ⟨(some 4), .faddr (.t 3) 0, none, 1⟩,
 ⟨(some 5), .load false 1 (.t 4), none, 3⟩,
 ⟨(some 6), .bin .eql (.t 5) (.c (.pv (.int .i64 (3)))), none, 7⟩] false)
 (.cond (.t 6)
 (.seq (.reg [⟨(some 7), .faddr (.t 1) 0, none, 0⟩,
 ⟨(some 8), .faddr (.t 7) 2, none, 1⟩,
 ⟨(some 9), .load false 1 (.t 8), none, 3⟩,
 ⟨(some 10), .bin .mul (.t 9) (.c (.pv (.int .i64 (65536)))), none, 7⟩,
 ⟨(some 2), .mv (.t 10), none, 15⟩] false)
 (.ret))
 (.skip)))
 (.seq (.reg [⟨(some 11), .faddr (.t 1) 0, none, 0⟩,
 ⟨(some 12), .faddr (.t 11) 2, none, 1⟩,
 ⟨(some 13), .load false 1 (.t 12), none, 3⟩,
 ⟨(some 2), .mv (.t 13), none, 7⟩] false)
 (.ret)))⟩
def c_object_Int : RFn := ⟨1, 8, [.cell 2 true 7, .tmp 3],
 .seq (.reg [⟨(some 2), .alloc [.pv (.int .i64 (0)), .pv (.bool false), .pv (.int .i64 (0)), .pv (.str []), .pv (.int .i64 (0)), .pv (.int .i64 (0)), .pv (.int .i64 (0))], none, 0⟩,
 ⟨(some 3), .mv (.c (.pv (.int .i64 (0)))), none, 0⟩] false)
 (.seq (.reg [⟨(some 4), .mv (.t 0), none, 0⟩,
 ⟨(some 5), .call (.f n_object_made_int) [.t 4, .f n_object_Int_1], none, 1⟩,
 ⟨(some 6), .extract (.t 5) 0, none, 3⟩,
 ⟨(some 7), .extract (.t 5) 1, none, 3⟩,
 ⟨none, .store 7 (.t 2) (.t 6), none, 15⟩,
 ⟨(some 3), .mv (.t 7), none, 31⟩] false)
 (.ret))⟩
def c_resource_isDict : RFn := ⟨1, 6, [.tmp 2],
 .seq (.reg [⟨(some 1), .box 7 (.t 0), none, 0⟩,
 ⟨(some 2), .mv (.c (.pv (.bool false))), none, 0⟩] false)
 (.seq (.reg [⟨(some 3), .faddr (.t 1) 0, none, 0⟩,
 ⟨(some 4), .load false 1 (.t 3), none, 1⟩,
 ⟨(some 5), .bin .eql (.t 4) (.c (.pv (.int .i64 (9)))), none, 3⟩,
 ⟨(some 2), .mv (.t 5), none, 7⟩] false)
 (.ret))⟩
def c_resource_isArray : RFn := ⟨1, 11, [.tmp 2],
 .seq (.reg [⟨(some 1), .box 7 (.t 0), none, 0⟩,
 ⟨(some 2), .mv (.c (.pv (.bool false))), none, 0⟩] false)
 (.seq (.reg [⟨(some 3), .faddr (.t 1) 0, none, 0⟩,
 ⟨(some 4), .load false 1 (.t 3), none, 1⟩,
 ⟨(some 5), .bin .eql (.t 4) (.c (.pv (.int .i64 (7)))), none, 3⟩,
 ⟨(some 6), .mv (.t 5), none, 7⟩,
 ⟨(some 7), .faddr (.t 1) 0, (some (6, false)), 15⟩,
 ⟨(some 8), .load false 1 (.t 7), (some (6, false)), 31⟩,
 ⟨(some 9), .bin .eql (.t 8) (.c (.pv (.int .i64 (8)))), (some (6, false)), 63⟩,
 ⟨(some 10), .pick (.t 6) (.c (.pv (.bool true))) (.t 9), none, 127⟩,
 ⟨(some 2), .mv (.t 10), none, 255⟩] false)
 (.ret))⟩
def c_slices_Index_int : RFn := ⟨2, 19, [.tmp 4],
 .seq (.reg [⟨(some 4), .mv (.c (.pv (.int .i64 (0)))), none, 0⟩] false)
 (.seq (.seq (.reg [⟨(some 6), .mv (.t 0), none, 0⟩,
 ⟨(some 7), .slen (.t 6), none, 1⟩,
 ⟨(some 8), .mv (.c (.pv (.int .i64 (0)))), none, 0⟩] false)
 (.block 0
 (.loop [0, 1, 7, 8]
 (.seq (.reg [⟨(some 9), .bin .lss (.t 8) (.t 7), none, 0⟩] false)
 (.seq (.cond (.t 9)
 (.skip)
 (.exit 0))
 (.seq (.block 1
 (.seq (.reg [⟨(some 10), .mv (.t 8), none, 0⟩,
 ⟨(some 5), .mv (.t 10), none, 1⟩] false)
 (.seq (.reg [⟨(some 11), .mv (.t 1), none, 0⟩,
 ⟨(some 12), .mv (.t 0), none, 0⟩,
 ⟨(some 13), .mv (.t 5), none, 0⟩,
 ⟨(some 14), .iaddr 1 (.t 12) (.t 13), none, 6⟩,
 ⟨(some 15), .load false 1 (.t 14), none, 14⟩,
 ⟨(some 16), .bin .eql (.t 11) (.t 15), none, 31⟩] false)
 (.cond (.t 16)
 (.seq (.reg [⟨(some 17), .mv (.t 5), none, 0⟩,
 ⟨(some 4), .mv (.t 17), none, 1⟩] false)
 (.ret))
 (.skip)))))
 (.reg [⟨(some 18), .bin .add (.t 8) (.c (.pv (.int .i64 (1)))), none, 0⟩,
 ⟨(some 8), .mv (.t 18), none, 1⟩] false)))))))
 (.seq (.reg [⟨(some 4), .mv (.c (.pv (.int .i64 (-1)))), none, 0⟩] false)
 (.ret)))⟩
def c_object_made_int : RFn := ⟨2, 15, [.cell 4 true 7, .tmp 5],
 .seq (.reg [⟨(some 4), .alloc [.pv (.int .i64 (0)), .pv (.bool false), .pv (.int .i64 (0)), .pv (.str []), .pv (.int .i64 (0)), .pv (.int .i64 (0)), .pv (.int .i64 (0))], none, 0⟩,
 ⟨(some 5), .mv (.c (.pv (.int .i64 (0)))), none, 0⟩] false)
 (.seq (.reg [⟨(some 7), .mv (.t 1), none, 0⟩,
 ⟨(some 8), .mv (.t 0), none, 0⟩,
 ⟨(some 9), .call (.t 7) [.t 8], none, 3⟩,
 ⟨(some 6), .alloc [.pv (.int .i64 (0)), .pv (.bool false), .pv (.int .i64 (0)), .pv (.str []), .pv (.int .i64 (0)), .pv (.int .i64 (0)), .pv (.int .i64 (0))], none, 0⟩,
 ⟨none, .store 7 (.t 6) (.t 9), none, 15⟩] false)
 (.seq (.seq (.reg [⟨(some 10), .load true 7 (.t 6), none, 0⟩,
 ⟨(some 11), .call (.f n_object_Check) [.t 10], none, 1⟩,
 ⟨(some 12), .bin .neq (.t 11) (.c (.pv (.int .i64 (0)))), none, 3⟩] false)
 (.cond (.t 12)
 (.seq (.reg [⟨(some 13), .build [.pv (.int .i64 (0)), .pv (.bool false), .pv (.int .i64 (0)), .pv (.str []), .pv (.int .i64 (0)), .pv (.int .i64 (0)), .pv (.int .i64 (0))] [], none, 0⟩,
 ⟨none, .store 7 (.t 4) (.t 13), none, 1⟩,
 ⟨(some 5), .mv (.c (.pv (.int .i64 (2)))), none, 3⟩] false)
 (.ret))
 (.skip)))
 (.seq (.reg [⟨(some 14), .load true 7 (.t 6), none, 0⟩,
 ⟨none, .store 7 (.t 4) (.t 14), none, 1⟩,
 ⟨(some 5), .mv (.c (.pv (.int .i64 (0)))), none, 3⟩] false)
 (.ret))))⟩
def c_object_Int_1 : RFn := ⟨1, 5, [.cell 2 true 7],
 .seq (.reg [⟨(some 2), .alloc [.pv (.int .i64 (0)), .pv (.bool false), .pv (.int .i64 (0)), .pv (.str []), .pv (.int .i64 (0)), .pv (.int .i64 (0)), .pv (.int .i64 (0))], none, 0⟩] false)
 (.seq (.reg [⟨(some 3), .mv (.t 0), none, 0⟩,
 ⟨(some 4), .build [.pv (.int .i64 (0)), .pv (.bool false), .pv (.int .i64 (0)), .pv (.str []), .pv (.int .i64 (0)), .pv (.int .i64 (0)), .pv (.int .i64 (0))] [(0, 1, .c (.pv (.int .i64 (3)))), (2, 1, .t 3)], none, 1⟩,
 ⟨none, .store 7 (.t 2) (.t 4), none, 3⟩] false)
 (.ret))⟩
end Go.Ab.Td
