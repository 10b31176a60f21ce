/- The code of functions of the program, printed by a program. Under: nothing. -/
import Derived.Test.YtblkalcialfiaaaDoorTdCd0
namespace Go.Ab.Td
open Go.Ab
def c_object_kinds : RFn := ⟨0, 15, [.cell 0 true 78],
 .seq (.reg [⟨(some 0), .alloc [.pv (.str []), .pv (.int .i64 (0)), .pv (.int .i64 (0)), .pv (.int .i64 (0)), .pv (.int .i64 (0)), .pv (.int .i64 (0)), .pv (.str []), .pv (.int .i64 (0)), .pv (.int .i64 (0)), .pv (.int .i64 (0)), .pv (.int .i64 (0)), .pv (.int .i64 (0)), .pv (.str []), .pv (.int .i64 (0)), .pv (.int .i64 (0)), .pv (.int .i64 (0)), .pv (.int .i64 (0)), .pv (.int .i64 (0)), .pv (.str []), .pv (.int .i64 (0)), .pv (.int .i64 (0)), .pv (.int .i64 (0)), .pv (.int .i64 (0)), .pv (.int .i64 (0)), .pv (.str []), .pv (.int .i64 (0)), .pv (.int .i64 (0)), .pv (.int .i64 (0)), .pv (.int .i64 (0)), .pv (.int .i64 (0)), .pv (.str []), .pv (.int .i64 (0)), .pv (.int .i64 (0)), .pv (.int .i64 (0)), .pv (.int .i64 (0)), .pv (.int .i64 (0)), .pv (.str []), .pv (.int .i64 (0)), .pv (.int .i64 (0)), .pv (.int .i64 (0)), .pv (.int .i64 (0)), .pv (.int .i64 (0)), .pv (.str []), .pv (.int .i64 (0)), .pv (.int .i64 (0)), .pv (.int .i64 (0)), .pv (.int .i64 (0)), .pv (.int .i64 (0)), .pv (.str []), .pv (.int .i64 (0)), .pv (.int .i64 (0)), .pv (.int .i64 (0)), .pv (.int .i64 (0)), .pv (.int .i64 (0)), .pv (.str []), .pv (.int .i64 (0)), .pv (.int .i64 (0)), .pv (.int .i64 (0)), .pv (.int .i64 (0)), .pv (.int .i64 (0)), .pv (.str []), .pv (.int .i64 (0)), .pv (.int .i64 (0)), .pv (.int .i64 (0)), .pv (.int .i64 (0)), .pv (.int .i64 (0)), .pv (.str []), .pv (.int .i64 (0)), .pv (.int .i64 (0)), .pv (.int .i64 (0)), .pv (.int .i64 (0)), .pv (.int .i64 (0)), .pv (.str []), .pv (.int .i64 (0)), .pv (.int .i64 (0)), .pv (.int .i64 (0)), .pv (.int .i64 (0)), .pv (.int .i64 (0))], none, 0⟩] false)
 (.seq (.reg [⟨(some 1), .build [.pv (.str []), .pv (.int .i64 (0)), .pv (.int .i64 (0)), .pv (.int .i64 (0)), .pv (.int .i64 (0)), .pv (.int .i64 (0))] [(0, 1, .c (.pv (.str [110, 117, 108, 108, 116, 121, 112, 101])))], none, 0⟩,
 ⟨(some 2), .build [.pv (.str []), .pv (.int .i64 (0)), .pv (.int .i64 (0)), .pv (.int .i64 (0)), .pv (.int .i64 (0)), .pv (.int .i64 (0))] [(0, 1, .c (.pv (.str [109, 97, 114, 107, 116, 121, 112, 101])))], none, 0⟩,
 ⟨(some 3), .build [.pv (.str []), .pv (.int .i64 (0)), .pv (.int .i64 (0)), .pv (.int .i64 (0)), .pv (.int .i64 (0)), .pv (.int .i64 (0))] [(0, 1, .c (.pv (.str [98, 111, 111, 108, 101, 97, 110, 116, 121, 112, 101]))), (2, 1, .c (.pv (.int .i64 (1))))], none, 0⟩,
 ⟨(some 4), .build [.pv (.str []), .pv (.int .i64 (0)), .pv (.int .i64 (0)), .pv (.int .i64 (0)), .pv (.int .i64 (0)), .pv (.int .i64 (0))] [(0, 1, .c (.pv (.str [105, 110, 116, 101, 103, 101, 114, 116, 121, 112, 101]))), (1, 1, .c (.pv (.int .i64 (-2147483648)))), (2, 1, .c (.pv (.int .i64 (2147483647))))], none, 0⟩,
 ⟨(some 5), .build [.pv (.str []), .pv (.int .i64 (0)), .pv (.int .i64 (0)), .pv (.int .i64 (0)), .pv (.int .i64 (0)), .pv (.int .i64 (0))] [(0, 1, .c (.pv (.str [114, 101, 97, 108, 116, 121, 112, 101]))), (1, 1, .c (.pv (.int .i64 (-2147483648)))), (2, 1, .c (.pv (.int .i64 (2147483648))))], none, 0⟩,
 ⟨(some 6), .build [.pv (.str []), .pv (.int .i64 (0)), .pv (.int .i64 (0)), .pv (.int .i64 (0)), .pv (.int .i64 (0)), .pv (.int .i64 (0))] [(0, 1, .c (.pv (.str [110, 97, 109, 101, 116, 121, 112, 101]))), (4, 1, .c (.pv (.int .i64 (100))))], none, 0⟩,
 ⟨(some 7), .build [.pv (.str []), .pv (.int .i64 (0)), .pv (.int .i64 (0)), .pv (.int .i64 (0)), .pv (.int .i64 (0)), .pv (.int .i64 (0))] [(0, 1, .c (.pv (.str [115, 116, 114, 105, 110, 103, 116, 121, 112, 101]))), (5, 1, .c (.pv (.int .i64 (1))))], none, 0⟩,
 ⟨(some 8), .build [.pv (.str []), .pv (.int .i64 (0)), .pv (.int .i64 (0)), .pv (.int .i64 (0)), .pv (.int .i64 (0)), .pv (.int .i64 (0))] [(0, 1, .c (.pv (.str [97, 114, 114, 97, 121, 116, 121, 112, 101]))), (5, 1, .c (.pv (.int .i64 (2))))], none, 0⟩,
 ⟨(some 9), .build [.pv (.str []), .pv (.int .i64 (0)), .pv (.int .i64 (0)), .pv (.int .i64 (0)), .pv (.int .i64 (0)), .pv (.int .i64 (0))] [(0, 1, .c (.pv (.str [112, 97, 99, 107, 101, 100, 97, 114, 114, 97, 121, 116, 121, 112, 101]))), (5, 1, .c (.pv (.int .i64 (2))))], none, 0⟩,
 ⟨(some 10), .build [.pv (.str []), .pv (.int .i64 (0)), .pv (.int .i64 (0)), .pv (.int .i64 (0)), .pv (.int .i64 (0)), .pv (.int .i64 (0))] [(0, 1, .c (.pv (.str [100, 105, 99, 116, 116, 121, 112, 101]))), (5, 1, .c (.pv (.int .i64 (3))))], none, 0⟩,
 ⟨(some 11), .build [.pv (.str []), .pv (.int .i64 (0)), .pv (.int .i64 (0)), .pv (.int .i64 (0)), .pv (.int .i64 (0)), .pv (.int .i64 (0))] [(0, 1, .c (.pv (.str [111, 112, 101, 114, 97, 116, 111, 114, 116, 121, 112, 101]))), (3, 1, .c (.pv (.int .i64 (1)))), (4, 1, .c (.pv (.int .i64 (100))))], none, 0⟩,
 ⟨(some 12), .build [.pv (.str []), .pv (.int .i64 (0)), .pv (.int .i64 (0)), .pv (.int .i64 (0)), .pv (.int .i64 (0)), .pv (.int .i64 (0))] [(0, 1, .c (.pv (.str [102, 105, 108, 101, 116, 121, 112, 101]))), (5, 1, .c (.pv (.int .i64 (3))))], none, 0⟩,
 ⟨(some 13), .build [.pv (.str []), .pv (.int .i64 (0)), .pv (.int .i64 (0)), .pv (.int .i64 (0)), .pv (.int .i64 (0)), .pv (.int .i64 (0))] [(0, 1, .c (.pv (.str [115, 97, 118, 101, 116, 121, 112, 101]))), (1, 1, .c (.pv (.int .i64 (1)))), (2, 1, .c (.pv (.int .i64 (9223372036854775807))))], none, 0⟩,
 ⟨(some 14), .build [.pv (.str []), .pv (.int .i64 (0)), .pv (.int .i64 (0)), .pv (.int .i64 (0)), .pv (.int .i64 (0)), .pv (.int .i64 (0)), .pv (.str []), .pv (.int .i64 (0)), .pv (.int .i64 (0)), .pv (.int .i64 (0)), .pv (.int .i64 (0)), .pv (.int .i64 (0)), .pv (.str []), .pv (.int .i64 (0)), .pv (.int .i64 (0)), .pv (.int .i64 (0)), .pv (.int .i64 (0)), .pv (.int .i64 (0)), .pv (.str []), .pv (.int .i64 (0)), .pv (.int .i64 (0)), .pv (.int .i64 (0)), .pv (.int .i64 (0)), .pv (.int .i64 (0)), .pv (.str []), .pv (.int .i64 (0)), .pv (.int .i64 (0)), .pv (.int .i64 (0)), .pv (.int .i64 (0)), .pv (.int .i64 (0)), .pv (.str []), .pv (.int .i64 (0)), .pv (.int .i64 (0)), .pv (.int .i64 (0)), .pv (.int .i64 (0)), .pv (.int .i64 (0)), .pv (.str []), .pv (.int .i64 (0)), .pv (.int .i64 (0)), .pv (.int .i64 (0)), .pv (.int .i64 (0)), .pv (.int .i64 (0)), .pv (.str []), .pv (.int .i64 (0)), .pv (.int .i64 (0)), .pv (.int .i64 (0)), .pv (.int .i64 (0)), .pv (.int .i64 (0)), .pv (.str []), .pv (.int .i64 (0)), .pv (.int .i64 (0)), .pv (.int .i64 (0)), .pv (.int .i64 (0)), .pv (.int .i64 (0)), .pv (.str []), .pv (.int .i64 (0)), .pv (.int .i64 (0)), .pv (.int .i64 (0)), .pv (.int .i64 (0)), .pv (.int .i64 (0)), .pv (.str []), .pv (.int .i64 (0)), .pv (.int .i64 (0)), .pv (.int .i64 (0)), .pv (.int .i64 (0)), .pv (.int .i64 (0)), .pv (.str []), .pv (.int .i64 (0)), .pv (.int .i64 (0)), .pv (.int .i64 (0)), .pv (.int .i64 (0)), .pv (.int .i64 (0)), .pv (.str []), .pv (.int .i64 (0)), .pv (.int .i64 (0)), .pv (.int .i64 (0)), .pv (.int .i64 (0)), .pv (.int .i64 (0))] [(0, 6, .t 1), (6, 6, .t 2), (12, 6, .t 3), (18, 6, .t 4), (24, 6, .t 5), (30, 6, .t 6), (36, 6, .t 7), (42, 6, .t 8), (48, 6, .t 9), (54, 6, .t 10), (60, 6, .t 11), (66, 6, .t 12), (72, 6, .t 13)], none, 8191⟩,
 ⟨none, .store 78 (.t 0) (.t 14), none, 16383⟩] false)
 (.ret))⟩
def c_object_kind_number : RFn := ⟨2, 17, [.tmp 4],
 .seq (.reg [⟨(some 2), .box 6 (.t 0), none, 0⟩,
 ⟨(some 3), .box 7 (.t 1), none, 0⟩,
 ⟨(some 4), .mv (.c (.pv (.bool false))), none, 0⟩] false)
 (.seq (.reg [⟨(some 5), .faddr (.t 3) 2, none, 0⟩,
 ⟨(some 6), .load false 1 (.t 5), none, 1⟩,
 ⟨(some 7), .faddr (.t 2) 1, none, 0⟩,
 ⟨(some 8), .load false 1 (.t 7), none, 4⟩,
 ⟨(some 9), .bin .geq (.t 6) (.t 8), none, 15⟩,
 ⟨(some 10), .mv (.t 9), none, 31⟩,
 ⟨(some 11), .faddr (.t 3) 2, (some (10, true)), 63⟩,
 ⟨(some 12), .load false 1 (.t 11), (some (10, true)), 127⟩,
 ⟨(some 13), .faddr (.t 2) 2, (some (10, true)), 63⟩,
 ⟨(some 14), .load false 1 (.t 13), (some (10, true)), 319⟩,
 ⟨(some 15), .bin .leq (.t 12) (.t 14), (some (10, true)), 1023⟩,
 ⟨(some 16), .pick (.t 10) (.t 15) (.c (.pv (.bool false))), none, 2047⟩,
 ⟨(some 4), .mv (.t 16), none, 4095⟩] false)
 (.ret))⟩
def c_object_kind_named : RFn := ⟨2, 19, [.tmp 4],
 .seq (.reg [⟨(some 2), .box 6 (.t 0), none, 0⟩,
 ⟨(some 3), .box 7 (.t 1), none, 0⟩,
 ⟨(some 4), .mv (.c (.pv (.bool false))), none, 0⟩] false)
 (.seq (.reg [⟨(some 5), .faddr (.t 3) 3, none, 0⟩,
 ⟨(some 6), .load false 1 (.t 5), none, 1⟩,
 ⟨(some 7), .strlen (.t 6), none, 3⟩,
 ⟨(some 8), .faddr (.t 2) 3, none, 0⟩,
 ⟨(some 9), .load false 1 (.t 8), none, 8⟩,
 ⟨(some 10), .bin .geq (.t 7) (.t 9), none, 31⟩,
 ⟨(some 11), .mv (.t 10), none, 63⟩,
 ⟨(some 12), .faddr (.t 3) 3, (some (11, true)), 127⟩,
 ⟨(some 13), .load false 1 (.t 12), (some (11, true)), 255⟩,
 ⟨(some 14), .strlen (.t 13), (some (11, true)), 511⟩,
 ⟨(some 15), .faddr (.t 2) 4, (some (11, true)), 127⟩,
 ⟨(some 16), .load false 1 (.t 15), (some (11, true)), 1151⟩,
 ⟨(some 17), .bin .leq (.t 14) (.t 16), (some (11, true)), 4095⟩,
 ⟨(some 18), .pick (.t 11) (.t 17) (.c (.pv (.bool false))), none, 8191⟩,
 ⟨(some 4), .mv (.t 18), none, 16383⟩] false)
 (.ret))⟩
def c_object_kind_referring : RFn := ⟨2, 57, [.tmp 4],
 .seq (.reg [⟨(some 2), .box 6 (.t 0), none, 0⟩,
 ⟨(some 3), .box 7 (.t 1), none, 0⟩,
 ⟨(some 4), .mv (.c (.pv (.bool false))), none, 0⟩] false)
 (.seq (.seq (.reg [⟨(some 6), .faddr (.t 2) 5, none, 0⟩,
 ⟨(some 7), .load false 1 (.t 6), none, 1⟩,
 ⟨(some 8), .bin .eql (.t 7) (.c (.pv (.int .i64 (0)))), none, 3⟩] false)
 (.cond (.t 8)
 (.seq (.reg [⟨(some 9), .faddr (.t 3) 4, none, 0⟩,
 ⟨(some 10), .load false 1 (.t 9), none, 1⟩,
 ⟨(some 11), .bin .eql (.t 10) (.c (.pv (.int .i64 (0)))), none, 3⟩,
 ⟨(some 12), .mv (.t 11), none, 7⟩,
 ⟨(some 13), .faddr (.t 3) 5, (some (12, true)), 15⟩,
 ⟨(some 14), .load false 1 (.t 13), (some (12, true)), 31⟩,
 ⟨(some 15), .bin .eql (.t 14) (.c (.pv (.int .i64 (0)))), (some (12, true)), 63⟩,
 ⟨(some 16), .pick (.t 12) (.t 15) (.c (.pv (.bool false))), none, 127⟩,
 ⟨(some 17), .mv (.t 16), none, 255⟩,
 ⟨(some 18), .faddr (.t 3) 6, (some (17, true)), 511⟩,
 ⟨(some 19), .load false 1 (.t 18), (some (17, true)), 1023⟩,
 ⟨(some 20), .bin .eql (.t 19) (.c (.pv (.int .i64 (0)))), (some (17, true)), 2047⟩,
 ⟨(some 21), .pick (.t 17) (.t 20) (.c (.pv (.bool false))), none, 4095⟩,
 ⟨(some 4), .mv (.t 21), none, 8191⟩] false)
 (.ret))
 (.skip)))
 (.seq (.reg [⟨(some 22), .load true 6 (.t 2), none, 0⟩,
 ⟨(some 23), .call (.f n_object_kind_longest) [.t 22], none, 1⟩,
 ⟨(some 5), .mv (.t 23), none, 3⟩] false)
 (.seq (.reg [⟨(some 24), .faddr (.t 3) 4, none, 0⟩,
 ⟨(some 25), .load false 1 (.t 24), none, 1⟩,
 ⟨(some 26), .bin .geq (.t 25) (.c (.pv (.int .i64 (0)))), none, 3⟩,
 ⟨(some 27), .mv (.t 26), none, 7⟩,
 ⟨(some 28), .faddr (.t 3) 4, (some (27, true)), 15⟩,
 ⟨(some 29), .load false 1 (.t 28), (some (27, true)), 31⟩,
 ⟨(some 30), .bin .leq (.t 29) (.c (.pv (.int .i64 (20000)))), (some (27, true)), 63⟩,
 ⟨(some 31), .pick (.t 27) (.t 30) (.c (.pv (.bool false))), none, 127⟩,
 ⟨(some 32), .mv (.t 31), none, 255⟩,
 ⟨(some 33), .faddr (.t 3) 5, (some (32, true)), 511⟩,
 ⟨(some 34), .load false 1 (.t 33), (some (32, true)), 1023⟩,
 ⟨(some 35), .bin .geq (.t 34) (.c (.pv (.int .i64 (0)))), (some (32, true)), 2047⟩,
 ⟨(some 36), .pick (.t 32) (.t 35) (.c (.pv (.bool false))), none, 4095⟩,
 ⟨(some 37), .mv (.t 36), none, 8191⟩,
 ⟨(some 38), .faddr (.t 3) 6, (some (37, true)), 16383⟩,
 ⟨(some 39), .load false 1 (.t 38), (some (37, true)), 32767⟩,
 ⟨(some 40), .bin .geq (.t 39) (.c (.pv (.int .i64 (0)))), (some (37, true)), 65535⟩,
 ⟨(some 41), .pick (.t 37) (.t 40) (.c (.pv (.bool false))), none, 131071⟩,
 ⟨(some 42), .mv (.t 41), none, 262143⟩,
 ⟨(some 43), .faddr (.t 3) 5, (some (42, true)), 524287⟩,
 ⟨(some 44), .load false 1 (.t 43), (some (42, true)), 1048575⟩,
 ⟨(some 45), .mv (.t 5), (some (42, true)), 524287⟩,
 ⟨(some 46), .bin .leq (.t 44) (.t 45), (some (42, true)), 4194303⟩,
 ⟨(some 47), .pick (.t 42) (.t 46) (.c (.pv (.bool false))), none, 8388607⟩,
 ⟨(some 48), .mv (.t 47), none, 16777215⟩,
 ⟨(some 49), .faddr (.t 3) 6, (some (48, true)), 33554431⟩,
 ⟨(some 50), .load false 1 (.t 49), (some (48, true)), 67108863⟩,
 ⟨(some 51), .mv (.t 5), (some (48, true)), 33554431⟩,
 ⟨(some 52), .faddr (.t 3) 5, (some (48, true)), 33554431⟩,
 ⟨(some 53), .load false 1 (.t 52), (some (48, true)), 301989887⟩,
 ⟨(some 54), .bin .sub (.t 51) (.t 53), (some (48, true)), 973078527⟩,
 ⟨(some 55), .bin .leq (.t 50) (.t 54), (some (48, true)), 2147483647⟩,
 ⟨(some 56), .pick (.t 48) (.t 55) (.c (.pv (.bool false))), none, 4294967295⟩,
 ⟨(some 4), .mv (.t 56), none, 8589934591⟩] false)
 (.ret))))⟩
def c_object_Value : RFn := ⟨1, 16, [.tmp 2, .tmp 3],
 .seq (.reg [⟨(some 1), .box 7 (.t 0), none, 0⟩,
 ⟨(some 2), .mv (.c (.pv (.int .i64 (0)))), none, 0⟩,
 ⟨(some 3), .mv (.c (.pv (.int .i64 (0)))), none, 2⟩] false)
 (.seq (.reg [⟨(some 7), .load true 7 (.t 1), none, 0⟩,
 ⟨(some 8), .call (.f n_object_numberOf) [.t 7], none, 1⟩,
 ⟨(some 6), .mv (.t 8), none, 3⟩,
 ⟨(some 9), .extract (.t 6) 0, none, 7⟩,
 ⟨(some 10), .extract (.t 6) 1, none, 7⟩,
 ⟨(some 4), .alloc [.pv (.int .i64 (0)), .pv (.bool false), .pv (.int .i64 (0)), .pv (.str []), .pv (.int .i64 (0)), .pv (.int .i64 (0)), .pv (.int .i64 (0))], none, 0⟩,
 ⟨none, .store 7 (.t 4) (.t 9), none, 47⟩,
 ⟨(some 5), .mv (.t 10), none, 127⟩] false)
 (.seq (.seq (.reg [⟨(some 11), .mv (.t 5), none, 0⟩,
 ⟨(some 12), .bin .neq (.t 11) (.c (.pv (.int .i64 (0)))), none, 1⟩] false)
 (.cond (.t 12)
 (.seq (.reg [⟨(some 13), .mv (.t 5), none, 0⟩,
 ⟨(some 2), .mv (.c (.pv (.int .i64 (0)))), none, 0⟩,
 ⟨(some 3), .mv (.t 13), none, 3⟩] false)
 (.ret))
 (.skip)))
 (.seq (.reg [⟨(some 14), .load true 7 (.t 4), none, 0⟩,
 ⟨(some 15), .call (.f n_object_number_value) [.t 14], none, 1⟩,
 ⟨(some 2), .mv (.t 15), none, 3⟩,
 ⟨(some 3), .mv (.c (.pv (.int .i64 (0)))), none, 7⟩] false)
 (.ret))))⟩
def c_heap_objects_1 : RFn := ⟨2, 29, [],
 .seq (.reg [⟨(some 7), .faddr (.t 1) 2, none, 0⟩,
 ⟨(some 8), .load false 1 (.t 7), none, 1⟩,
 ⟨(some 9), .faddr (.t 1) 3, none, 0⟩,
 ⟨(some 10), .load false 1 (.t 9), none, 4⟩,
 ⟨(some 11), .faddr (.t 1) 4, none, 0⟩,
 ⟨(some 12), .load false 1 (.t 11), none, 16⟩,
 ⟨(some 13), .build [.emp 7, .emp 7, .emp 7] [(0, 1, .t 8), (1, 1, .t 10), (2, 1, .t 12)], none, 63⟩,
 ⟨(some 14), .mv (.c (.pv (.int .i64 (0)))), none, 0⟩] false)
 (.block 0
 (.loop [0, 13, 14]
 (.seq (.reg [⟨(some 15), .bin .lss (.t 14) (.c (.pv (.int .i64 (3)))), none, 0⟩] false)
 (.seq (.cond (.t 15)
 (.skip)
 (.exit 0))
 (.seq (.block 1
 (.seq (.reg [⟨(some 16), .index false 3 1 (.t 13) (.t 14), none, 0⟩,
 ⟨(some 4), .mv (.t 16), none, 1⟩] false)
 (.seq (.reg [⟨(some 17), .mv (.t 4), none, 0⟩,
 ⟨(some 18), .slen (.t 17), none, 1⟩,
 ⟨(some 19), .mv (.c (.pv (.int .i64 (0)))), none, 0⟩] false)
 (.block 2
 (.loop [0, 13, 14, 17, 18, 19]
 (.seq (.reg [⟨(some 20), .bin .lss (.t 19) (.t 18), none, 0⟩] false)
 (.seq (.cond (.t 20)
 (.skip)
 (.exit 2))
 (.seq (.block 3
 (.seq (.reg [⟨(some 21), .iaddr 7 (.t 17) (.t 19), none, 0⟩,
 ⟨(some 22), .load true 7 (.t 21), none, 1⟩,
 ⟨(some 6), .alloc [.pv (.int .i64 (0)), .pv (.bool false), .pv (.int .i64 (0)), .pv (.str []), .pv (.int .i64 (0)), .pv (.int .i64 (0)), .pv (.int .i64 (0))], none, 0⟩,
 ⟨none, .store 7 (.t 6) (.t 22), none, 7⟩] false)
 (.seq (.reg [⟨(some 23), .mv (.t 0), none, 0⟩,
 ⟨(some 24), .load true 7 (.t 6), none, 0⟩,
 ⟨(some 25), .call (.t 23) [.t 24], none, 3⟩,
 ⟨(some 26), .not (.t 25), none, 7⟩] false)
 (.cond (.t 26)
 (.ret)
 (.skip)))))
 (.reg [⟨(some 27), .bin .add (.t 19) (.c (.pv (.int .i64 (1)))), none, 0⟩,
 ⟨(some 19), .mv (.t 27), none, 1⟩] false)))))))))
 (.reg [⟨(some 28), .bin .add (.t 14) (.c (.pv (.int .i64 (1)))), none, 0⟩,
 ⟨(some 14), .mv (.t 28), none, 1⟩] false))))))⟩
def c_object_ToInt : RFn := ⟨1, 20, [.cell 2 true 7, .tmp 3],
 .seq (.reg [⟨(some 1), .box 7 (.t 0), none, 0⟩,
 ⟨(some 2), .alloc [.pv (.int .i64 (0)), .pv (.bool false), .pv (.int .i64 (0)), .pv (.str []), .pv (.int .i64 (0)), .pv (.int .i64 (0)), .pv (.int .i64 (0))], none, 0⟩,
 ⟨(some 3), .mv (.c (.pv (.int .i64 (0)))), none, 0⟩] false)
 (.seq (.reg [⟨(some 7), .load true 7 (.t 1), none, 0⟩,
 ⟨(some 8), .call (.f n_object_Value) [.t 7], none, 1⟩,
 ⟨(some 6), .mv (.t 8), none, 3⟩,
 ⟨(some 9), .extract (.t 6) 0, none, 7⟩,
 ⟨(some 10), .extract (.t 6) 1, none, 7⟩,
 ⟨(some 4), .mv (.t 9), none, 15⟩,
 ⟨(some 5), .mv (.t 10), none, 63⟩] false)
 (.seq (.seq (.reg [⟨(some 11), .mv (.t 5), none, 0⟩,
 ⟨(some 12), .bin .neq (.t 11) (.c (.pv (.int .i64 (0)))), none, 1⟩] false)
 (.cond (.t 12)
 (.seq (.reg [⟨(some 13), .build [.pv (.int .i64 (0)), .pv (.bool false), .pv (.int .i64 (0)), .pv (.str []), .pv (.int .i64 (0)), .pv (.int .i64 (0)), .pv (.int .i64 (0))] [], none, 0⟩,
 ⟨(some 14), .mv (.t 5), none, 0⟩,
 ⟨none, .store 7 (.t 2) (.t 13), none, 1⟩,
 ⟨(some 3), .mv (.t 14), none, 7⟩] false)
 (.ret))
 (.skip)))
 (.seq (.reg [⟨(some 15), .mv (.t 4), none, 0⟩,
 ⟨(some 16), .bin .quo (.t 15) (.c (.pv (.int .i64 (65536)))), none, 1⟩,
 ⟨(some 17), .call (.f n_object_Int) [.t 16], none, 3⟩,
 ⟨(some 18), .extract (.t 17) 0, none, 7⟩,
 ⟨(some 19), .extract (.t 17) 1, none, 7⟩,
 ⟨none, .store 7 (.t 2) (.t 18), none, 31⟩,
 ⟨(some 3), .mv (.t 19), none, 63⟩] false)
 (.ret))))⟩
def c_object_made_string : RFn := ⟨2, 15, [.cell 4 true 7, .tmp 5],
 .seq (.reg [⟨(some 4), .alloc [.pv (.int .i64 (0)), .pv (.bool false), .pv (.int .i64 (0)), .pv (.str []), .pv (.int .i64 (0)), .pv (.int .i64 (0)), .pv (.int .i64 (0))], none, 0⟩,
 ⟨(some 5), .mv (.c (.pv (.int .i64 (0)))), none, 0⟩] false)
 (.seq (.reg [⟨(some 7), .mv (.t 1), none, 0⟩,
 ⟨(some 8), .mv (.t 0), none, 0⟩,
 ⟨(some 9), .call (.t 7) [.t 8], none, 3⟩,
 ⟨(some 6), .alloc [.pv (.int .i64 (0)), .pv (.bool false), .pv (.int .i64 (0)), .pv (.str []), .pv (.int .i64 (0)), .pv (.int .i64 (0)), .pv (.int .i64 (0))], none, 0⟩,
 ⟨none, .store 7 (.t 6) (.t 9), none, 15⟩] false)
 (.seq (.seq (.reg [⟨(some 10), .load true 7 (.t 6), none, 0⟩,
 ⟨(some 11), .call (.f n_object_Check) [.t 10], none, 1⟩,
 ⟨(some 12), .bin .neq (.t 11) (.c (.pv (.int .i64 (0)))), none, 3⟩] false)
 (.cond (.t 12)
 (.seq (.reg [⟨(some 13), .build [.pv (.int .i64 (0)), .pv (.bool false), .pv (.int .i64 (0)), .pv (.str []), .pv (.int .i64 (0)), .pv (.int .i64 (0)), .pv (.int .i64 (0))] [], none, 0⟩,
 ⟨none, .store 7 (.t 4) (.t 13), none, 1⟩,
 ⟨(some 5), .mv (.c (.pv (.int .i64 (2)))), none, 3⟩] false)
 (.ret))
 (.skip)))
 (.seq (.reg [⟨(some 14), .load true 7 (.t 6), none, 0⟩,
 ⟨none, .store 7 (.t 4) (.t 14), none, 1⟩,
 ⟨(some 5), .mv (.c (.pv (.int .i64 (0)))), none, 3⟩] false)
 (.ret))))⟩
def c_object_Name_1 : RFn := ⟨2, 7, [.cell 3 true 7],
 .seq (.reg [⟨(some 3), .alloc [.pv (.int .i64 (0)), .pv (.bool false), .pv (.int .i64 (0)), .pv (.str []), .pv (.int .i64 (0)), .pv (.int .i64 (0)), .pv (.int .i64 (0))], none, 0⟩] false)
 (.seq (.reg [⟨(some 4), .mv (.t 0), none, 0⟩,
 ⟨(some 5), .load false 1 (.t 1), none, 0⟩,
 ⟨(some 6), .build [.pv (.int .i64 (0)), .pv (.bool false), .pv (.int .i64 (0)), .pv (.str []), .pv (.int .i64 (0)), .pv (.int .i64 (0)), .pv (.int .i64 (0))] [(0, 1, .c (.pv (.int .i64 (5)))), (3, 1, .t 4), (1, 1, .t 5)], none, 3⟩,
 ⟨none, .store 7 (.t 3) (.t 6), none, 7⟩] false)
 (.ret))⟩
def c_ref10_ToInt : RFn := ⟨1, 16, [.cell 2 true 7],
 .seq (.reg [⟨(some 1), .box 7 (.t 0), none, 0⟩,
 ⟨(some 2), .alloc [.pv (.int .i64 (0)), .pv (.bool false), .pv (.int .i64 (0)), .pv (.str []), .pv (.int .i64 (0)), .pv (.int .i64 (0)), .pv (.int .i64 (0))], none, 0⟩] false)
 (.seq (.reg [⟨(some 4), .load true 7 (.t 1), none, 0⟩,
 ⟨(some 5), .call (.f n_ref10_Value) [.t 4], none, 1⟩,
 ⟨(some 3), .mv (.t 5), none, 3⟩] false)
 (.seq (.seq (.reg [⟨(some 6), .mv (.t 3), none, 0⟩,
 ⟨(some 7), .bin .lss (.t 6) (.c (.pv (.int .i64 (0)))), none, 1⟩] false)
 (.cond (.t 7)
 (.seq (.reg [⟨(some 8), .mv (.t 3), none, 0⟩,
 ⟨(some 9), .neg (.t 8), none, 1⟩,
 ⟨(some 10), .bin .quo (.t 9) (.c (.pv (.int .i64 (65536)))), none, 3⟩,
 ⟨(some 11), .neg (.t 10), none, 7⟩,
 ⟨(some 12), .call (.f n_ref10_Int) [.t 11], none, 15⟩,
 ⟨none, .store 7 (.t 2) (.t 12), none, 31⟩] false)
 (.ret))
 (.skip)))
 (.seq (.reg [⟨(some 13), .mv (.t 3), none, 0⟩,
 ⟨(some 14), .bin .quo (.t 13) (.c (.pv (.int .i64 (65536)))), none, 1⟩,
 ⟨(some 15), .call (.f n_ref10_Int) [.t 14], none, 3⟩,
 ⟨none, .store 7 (.t 2) (.t 15), none, 7⟩] false)
 (.ret))))⟩
def c_slices_Contains_int : RFn := ⟨2, 9, [.tmp 4],
 .seq (.reg [⟨(some 4), .mv (.c (.pv (.bool false))), none, 0⟩] false)
 (.seq (.reg [⟨(some 5), .mv (.t 0), none, 0⟩,
 ⟨(some 6), .mv (.t 1), none, 0⟩,
 ⟨(some 7), .call (.f n_slices_Index_int) [.t 5, .t 6], none, 3⟩,
 ⟨(some 8), .bin .geq (.t 7) (.c (.pv (.int .i64 (0)))), none, 7⟩,
 ⟨(some 4), .mv (.t 8), none, 15⟩] false)
 (.ret))⟩
def c_object_kind_longest : RFn := ⟨1, 7, [.tmp 2],
 .seq (.reg [⟨(some 1), .box 6 (.t 0), none, 0⟩,
 ⟨(some 2), .mv (.c (.pv (.int .i64 (0)))), none, 0⟩] false)
 (.seq (.reg [⟨(some 3), .build [.pv (.int .i64 (0)), .pv (.int .i64 (0)), .pv (.int .i64 (0)), .pv (.int .i64 (0))] [(0, 1, .c (.pv (.int .i64 (0)))), (1, 1, .c (.pv (.int .i64 (1000)))), (2, 1, .c (.pv (.int .i64 (1000)))), (3, 1, .c (.pv (.int .i64 (0))))], none, 0⟩,
 ⟨(some 4), .faddr (.t 1) 5, none, 0⟩,
 ⟨(some 5), .load false 1 (.t 4), none, 2⟩,
 ⟨(some 6), .index false 4 1 (.t 3) (.t 5), none, 7⟩,
 ⟨(some 2), .mv (.t 6), none, 15⟩] false)
 (.ret))⟩
def c_object_numberOf : RFn := ⟨1, 22, [.cell 2 true 7, .tmp 3],
 .seq (.reg [⟨(some 1), .box 7 (.t 0), none, 0⟩,
 ⟨(some 2), .alloc [.pv (.int .i64 (0)), .pv (.bool false), .pv (.int .i64 (0)), .pv (.str []), .pv (.int .i64 (0)), .pv (.int .i64 (0)), .pv (.int .i64 (0))], none, 0⟩,
 ⟨(some 3), .mv (.c (.pv (.int .i64 (0)))), none, 0⟩] false)
 (.seq (.seq (.reg [⟨(some 5), .load true 7 (.t 1), none, 0⟩,
 ⟨(some 6), .call (.f n_object_Check) [.t 5], none, 1⟩,
 ⟨(some 4), .mv (.t 6), none, 3⟩] false)
 (.seq (.reg [⟨(some 7), .mv (.t 4), none, 0⟩,
 ⟨(some 8), .bin .neq (.t 7) (.c (.pv (.int .i64 (0)))), none, 1⟩] false)
 (.cond (.t 8)
 (.seq (.reg [⟨(some 9), .build [.pv (.int .i64 (0)), .pv (.bool false), .pv (.int .i64 (0)), .pv (.str []), .pv (.int .i64 (0)), .pv (.int .i64 (0)), .pv (.int .i64 (0))] [], none, 0⟩,
 ⟨(some 10), .mv (.t 4), none, 0⟩,
 ⟨none, .store 7 (.t 2) (.t 9), none, 1⟩,
 ⟨(some 3), .mv (.t 10), none, 7⟩] false)
 (.ret))
 (.skip))))
 (.seq (.seq (.reg [⟨(some 11), .faddr (.t 1) 0, none, 0⟩,
 ⟨(some 12), .load false 1 (.t 11), none, 1⟩,
 ⟨(some 13), .bin .neq (.t 12) (.c (.pv (.int .i64 (3)))), none, 3⟩,
 ⟨(some 14), .mv (.t 13), none, 7⟩,
 ⟨(some 15), .faddr (.t 1) 0, (some (14, true)), 15⟩,
 ⟨(some 16), .load false 1 (.t 15), (some (14, true)), 31⟩,
 ⟨(some 17), .bin .neq (.t 16) (.c (.pv (.int .i64 (4)))), (some (14, true)), 63⟩,
 ⟨(some 18), .pick (.t 14) (.t 17) (.c (.pv (.bool false))), none, 127⟩] false)
 (.cond (.t 18)
 (.seq (.reg [⟨(some 19), .build [.pv (.int .i64 (0)), .pv (.bool false), .pv (.int .i64 (0)), .pv (.str []), .pv (.int .i64 (0)), .pv (.int .i64 (0)), .pv (.int .i64 (0))] [], none, 0⟩,
 ⟨none, .store 7 (.t 2) (.t 19), none, 1⟩,
 ⟨(some 3), .mv (.c (.pv (.int .i64 (22)))), none, 3⟩] false)
 (.ret))
 (.skip)))
 (.seq (.reg [⟨(some 20), .load true 7 (.t 1), none, 0⟩,
 ⟨(some 21), .build [.pv (.int .i64 (0)), .pv (.bool false), .pv (.int .i64 (0)), .pv (.str []), .pv (.int .i64 (0)), .pv (.int .i64 (0)), .pv (.int .i64 (0))] [(0, 7, .t 20)], none, 1⟩,
 ⟨none, .store 7 (.t 2) (.t 21), none, 3⟩,
 ⟨(some 3), .mv (.c (.pv (.int .i64 (0)))), none, 7⟩] false)
 (.ret))))⟩
def c_object_number_value : RFn := ⟨1, 14, [.tmp 2],
 .seq (.reg [⟨(some 1), .box 7 (.t 0), none, 0⟩,
 ⟨(some 2), .mv (.c (.pv (.int .i64 (0)))), none, 0⟩] false)
 (.seq (.seq (.reg [⟨(some 3), .faddr (.t 1) 0, none, 0⟩,
 ⟨(some 4), .faddr (.t 3) 0, none, 1⟩,
 ⟨(some 5), .load false 1 (.t 4), none, 3⟩,
 ⟨(some 6), .bin .eql (.t 5) (.c (.pv (.int .i64 (3)))), none, 7⟩] false)
 (.cond (.t 6)
 (.seq (.reg [⟨(some 7), .faddr (.t 1) 0, none, 0⟩,
 ⟨(some 8), .faddr (.t 7) 2, none, 1⟩,
 ⟨(some 9), .load false 1 (.t 8), none, 3⟩,
 ⟨(some 10), .bin .mul (.t 9) (.c (.pv (.int .i64 (65536)))), none, 7⟩,
 ⟨(some 2), .mv (.t 10), none, 15⟩] false)
 (.ret))
 (.skip)))
 (.seq (.reg [⟨(some 11), .faddr (.t 1) 0, none, 0⟩,
 ⟨(some 12), .faddr (.t 11) 2, none, 1⟩,
 ⟨(some 13), .load false 1 (.t 12), none, 3⟩,
 ⟨(some 2), .mv (.t 13), none, 7⟩] false)
 (.ret)))⟩
def c_object_Int : RFn := ⟨1, 8, [.cell 2 true 7, .tmp 3],
 .seq (.reg [⟨(some 2), .alloc [.pv (.int .i64 (0)), .pv (.bool false), .pv (.int .i64 (0)), .pv (.str []), .pv (.int .i64 (0)), .pv (.int .i64 (0)), .pv (.int .i64 (0))], none, 0⟩,
 ⟨(some 3), .mv (.c (.pv (.int .i64 (0)))), none, 0⟩] false)
 (.seq (.reg [⟨(some 4), .mv (.t 0), none, 0⟩,
 ⟨(some 5), .call (.f n_object_made_int) [.t 4, .f n_object_Int_1], none, 1⟩,
 ⟨(some 6), .extract (.t 5) 0, none, 3⟩,
 ⟨(some 7), .extract (.t 5) 1, none, 3⟩,
 ⟨none, .store 7 (.t 2) (.t 6), none, 15⟩,
 ⟨(some 3), .mv (.t 7), none, 31⟩] false)
 (.ret))⟩
def c_slices_Index_int : RFn := ⟨2, 19, [.tmp 4],
 .seq (.reg [⟨(some 4), .mv (.c (.pv (.int .i64 (0)))), none, 0⟩] false)
 (.seq (.seq (.reg [⟨(some 6), .mv (.t 0), none, 0⟩,
 ⟨(some 7), .slen (.t 6), none, 1⟩,
 ⟨(some 8), .mv (.c (.pv (.int .i64 (0)))), none, 0⟩] false)
 (.block 0
 (.loop [0, 1, 7, 8]
 (.seq (.reg [⟨(some 9), .bin .lss (.t 8) (.t 7), none, 0⟩] false)
 (.seq (.cond (.t 9)
 (.skip)
 (.exit 0))
 (.seq (.block 1
 (.seq (.reg [⟨(some 10), .mv (.t 8), none, 0⟩,
 ⟨(some 5), .mv (.t 10), none, 1⟩] false)
 (.seq (.reg [⟨(some 11), .mv (.t 1), none, 0⟩,
 ⟨(some 12), .mv (.t 0), none, 0⟩,
 ⟨(some 13), .mv (.t 5), none, 0⟩,
 ⟨(some 14), .iaddr 1 (.t 12) (.t 13), none, 6⟩,
 ⟨(some 15), .load false 1 (.t 14), none, 14⟩,
 ⟨(some 16), .bin .eql (.t 11) (.t 15), none, 31⟩] false)
 (.cond (.t 16)
 (.seq (.reg [⟨(some 17), .mv (.t 5), none, 0⟩,
 ⟨(some 4), .mv (.t 17), none, 1⟩] false)
 (.ret))
 (.skip)))))
 (.reg [⟨(some 18), .bin .add (.t 8) (.c (.pv (.int .i64 (1)))), none, 0⟩,
 ⟨(some 8), .mv (.t 18), none, 1⟩] false)))))))
 (.seq (.reg [⟨(some 4), .mv (.c (.pv (.int .i64 (-1)))), none, 0⟩] false)
 (.ret)))⟩
def c_object_made_int : RFn := ⟨2, 15, [.cell 4 true 7, .tmp 5],
 .seq (.reg [⟨(some 4), .alloc [.pv (.int .i64 (0)), .pv (.bool false), .pv (.int .i64 (0)), .pv (.str []), .pv (.int .i64 (0)), .pv (.int .i64 (0)), .pv (.int .i64 (0))], none, 0⟩,
 ⟨(some 5), .mv (.c (.pv (.int .i64 (0)))), none, 0⟩] false)
 (.seq (.reg [⟨(some 7), .mv (.t 1), none, 0⟩,
 ⟨(some 8), .mv (.t 0), none, 0⟩,
 ⟨(some 9), .call (.t 7) [.t 8], none, 3⟩,
 ⟨(some 6), .alloc [.pv (.int .i64 (0)), .pv (.bool false), .pv (.int .i64 (0)), .pv (.str []), .pv (.int .i64 (0)), .pv (.int .i64 (0)), .pv (.int .i64 (0))], none, 0⟩,
 ⟨none, .store 7 (.t 6) (.t 9), none, 15⟩] false)
 (.seq (.seq (.reg [⟨(some 10), .load true 7 (.t 6), none, 0⟩,
 ⟨(some 11), .call (.f n_object_Check) [.t 10], none, 1⟩,
 ⟨(some 12), .bin .neq (.t 11) (.c (.pv (.int .i64 (0)))), none, 3⟩] false)
 (.cond (.t 12)
 (.seq (.reg [⟨(some 13), .build [.pv (.int .i64 (0)), .pv (.bool false), .pv (.int .i64 (0)), .pv (.str []), .pv (.int .i64 (0)), .pv (.int .i64 (0)), .pv (.int .i64 (0))] [], none, 0⟩,
 ⟨none, .store 7 (.t 4) (.t 13), none, 1⟩,
 ⟨(some 5), .mv (.c (.pv (.int .i64 (2)))), none, 3⟩] false)
 (.ret))
 (.skip)))
 (.seq (.reg [⟨(some 14), .load true 7 (.t 6), none, 0⟩,
 ⟨none, .store 7 (.t 4) (.t 14), none, 1⟩,
 ⟨(some 5), .mv (.c (.pv (.int .i64 (0)))), none, 3⟩] false)
 (.ret))))⟩
def c_object_Int_1 : RFn := ⟨1, 5, [.cell 2 true 7],
 .seq (.reg [⟨(some 2), .alloc [.pv (.int .i64 (0)), .pv (.bool false), .pv (.int .i64 (0)), .pv (.str []), .pv (.int .i64 (0)), .pv (.int .i64 (0)), .pv (.int .i64 (0))], none, 0⟩] false)
 (.seq (.reg [⟨(some 3), .mv (.t 0), none, 0⟩,
 ⟨(some 4), .build [.pv (.int .i64 (0)), .pv (.bool false), .pv (.int .i64 (0)), .pv (.str []), .pv (.int .i64 (0)), .pv (.int .i64 (0)), .pv (.int .i64 (0))] [(0, 1, .c (.pv (.int .i64 (3)))), (2, 1, .t 3)], none, 1⟩,
 ⟨none, .store 7 (.t 2) (.t 4), none, 3⟩] false)
 (.ret))⟩
end Go.Ab.Td
