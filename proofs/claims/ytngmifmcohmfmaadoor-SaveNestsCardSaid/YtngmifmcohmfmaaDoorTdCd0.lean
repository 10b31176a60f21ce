/- The code of functions of the program, printed by a program. Under: nothing. -/
import Derived.Test.YtngmifmcohmfmaaDoorTdNm
namespace Go.Ab.Td
open Go.Ab
def c_law19_SaveNests : RFn := ⟨3, 147, [.tmp 6],
 .seq (.reg [⟨(some 3), .box 3 (.t 0), none, 0⟩,
 ⟨(some 6), .mv (.c (.pv (.bool false))), none, 0⟩] false)
 (.seq (.seq (.reg [⟨(some 18), .call (.f n_law19_wakes) [], none, 0⟩,
 ⟨(some 19), .not (.t 18), none, 1⟩] false)
 (.cond (.t 19)
 (.seq (.reg [⟨(some 6), .mv (.c (.pv (.bool false))), none, 0⟩] false)
 (.ret))
 (.skip)))
 (.seq (.reg [⟨(some 20), .load true 3 (.t 3), none, 0⟩,
 ⟨(some 21), .call (.f n_law19_start) [.t 20], none, 1⟩,
 ⟨(some 7), .alloc [.emp 7, .emp 7, .emp 7, .emp 3, .pv (.int .i64 (0)), .pv (.int .i64 (0)), .pv (.int .i64 (0)), .pv (.int .i64 (0)), .pv (.int .i64 (0)), .pv (.int .i64 (0)), .pv (.int .i64 (0)), .emp 7, .pv (.int .i64 (0)), .pv (.int .i64 (0)), .pv (.int .i64 (0)), .pv (.int .i64 (0)), .pv (.int .i64 (0)), .pv (.int .i64 (0)), .pv (.int .i64 (0)), .pv (.int .i64 (0)), .pv (.int .i64 (0)), .pv (.int .i64 (0)), .pv (.int .i64 (0)), .pv (.int .i64 (0)), .pv (.int .i64 (0)), .pv (.int .i64 (0)), .pv (.int .i64 (0)), .pv (.int .i64 (0)), .pv (.int .i64 (0)), .pv (.int .i64 (0)), .pv (.int .i64 (0)), .pv (.int .i64 (0)), .pv (.bool false), .pv (.bool false), .emp 47, .pv (.int .i64 (0)), .pv (.int .i64 (0)), .pv (.int .i64 (0)), .pv (.int .i64 (0)), .pv (.int .i64 (0)), .pv (.int .i64 (0)), .pv (.int .i64 (0)), .pv (.int .i64 (0)), .emp 1, .pv (.int .i64 (0)), .pv (.int .i64 (0)), .emp 2, .pv (.int .i64 (0)), .pv (.bool false), .pv (.int .i64 (0)), .pv (.str []), .pv (.int .i64 (0)), .pv (.int .i64 (0)), .pv (.int .i64 (0)), .pv (.int .i64 (0)), .pv (.int .i64 (0)), .pv (.int .i64 (0)), .pv (.int .i64 (0)), .pv (.int .i64 (0)), .pv (.int .i64 (0)), .pv (.int .i64 (0)), .pv (.int .i64 (0)), .emp 57, .emp 47, .emp 3, .pv (.str []), .pv (.int .i64 (0))], none, 0⟩,
 ⟨none, .store 67 (.t 7) (.t 21), none, 7⟩] false)
 (.seq (.reg [⟨(some 22), .faddr (.t 7) 0, none, 0⟩,
 ⟨none, .store 1 (.t 22) (.c (.emp 7)), none, 1⟩] false)
 (.seq (.reg [⟨(some 23), .mv (.t 1), none, 0⟩,
 ⟨(some 24), .bin .rem (.t 23) (.c (.pv (.int .u8 (10)))), none, 1⟩,
 ⟨(some 25), .conv .i64 (.t 24), none, 3⟩,
 ⟨(some 26), .bin .add (.c (.pv (.int .i64 (1)))) (.t 25), none, 7⟩,
 ⟨(some 8), .mv (.t 26), none, 15⟩] false)
 (.seq (.seq (.reg [⟨(some 27), .mv (.t 8), none, 0⟩,
 ⟨(some 28), .mv (.c (.pv (.int .i64 (0)))), none, 0⟩] false)
 (.block 0
 (.loop [2, 7, 8, 27, 28]
 (.seq (.reg [⟨(some 29), .bin .lss (.t 28) (.t 27), none, 0⟩] false)
 (.seq (.cond (.t 29)
 (.skip)
 (.exit 0))
 (.seq (.block 1
 (.seq (.reg [⟨(some 30), .mv (.t 28), none, 0⟩,
 ⟨(some 9), .mv (.t 30), none, 1⟩] false)
 (.seq (.reg [⟨(some 31), .mv (.t 9), none, 0⟩,
 ⟨(some 32), .bin .add (.c (.pv (.int .i64 (10)))) (.t 31), none, 1⟩,
 ⟨(some 33), .faddr (.t 7) 5, none, 3⟩,
 ⟨(some 34), .faddr (.t 33) 40, none, 7⟩,
 ⟨none, .store 1 (.t 34) (.t 32), none, 15⟩] false)
 (.seq (.reg [⟨(some 36), .load true 67 (.t 7), none, 0⟩,
 ⟨(some 37), .call (.f n_save_Do) [.t 36, .c (.pv (.str [115, 97, 118, 101]))], none, 1⟩,
 ⟨(some 35), .mv (.t 37), none, 3⟩,
 ⟨(some 38), .extract (.t 35) 0, none, 7⟩,
 ⟨(some 39), .extract (.t 35) 1, none, 7⟩,
 ⟨(some 10), .alloc [.emp 7, .emp 7, .emp 7, .emp 3, .pv (.int .i64 (0)), .pv (.int .i64 (0)), .pv (.int .i64 (0)), .pv (.int .i64 (0)), .pv (.int .i64 (0)), .pv (.int .i64 (0)), .pv (.int .i64 (0)), .emp 7, .pv (.int .i64 (0)), .pv (.int .i64 (0)), .pv (.int .i64 (0)), .pv (.int .i64 (0)), .pv (.int .i64 (0)), .pv (.int .i64 (0)), .pv (.int .i64 (0)), .pv (.int .i64 (0)), .pv (.int .i64 (0)), .pv (.int .i64 (0)), .pv (.int .i64 (0)), .pv (.int .i64 (0)), .pv (.int .i64 (0)), .pv (.int .i64 (0)), .pv (.int .i64 (0)), .pv (.int .i64 (0)), .pv (.int .i64 (0)), .pv (.int .i64 (0)), .pv (.int .i64 (0)), .pv (.int .i64 (0)), .pv (.bool false), .pv (.bool false), .emp 47, .pv (.int .i64 (0)), .pv (.int .i64 (0)), .pv (.int .i64 (0)), .pv (.int .i64 (0)), .pv (.int .i64 (0)), .pv (.int .i64 (0)), .pv (.int .i64 (0)), .pv (.int .i64 (0)), .emp 1, .pv (.int .i64 (0)), .pv (.int .i64 (0)), .emp 2, .pv (.int .i64 (0)), .pv (.bool false), .pv (.int .i64 (0)), .pv (.str []), .pv (.int .i64 (0)), .pv (.int .i64 (0)), .pv (.int .i64 (0)), .pv (.int .i64 (0)), .pv (.int .i64 (0)), .pv (.int .i64 (0)), .pv (.int .i64 (0)), .pv (.int .i64 (0)), .pv (.int .i64 (0)), .pv (.int .i64 (0)), .pv (.int .i64 (0)), .emp 57, .emp 47, .emp 3, .pv (.str []), .pv (.int .i64 (0))], none, 0⟩,
 ⟨none, .store 67 (.t 10) (.t 38), none, 47⟩,
 ⟨(some 11), .mv (.t 39), none, 127⟩] false)
 (.seq (.seq (.reg [⟨(some 40), .mv (.t 11), none, 0⟩,
 ⟨(some 41), .bin .neq (.t 40) (.c (.pv (.int .i64 (0)))), none, 1⟩,
 ⟨(some 42), .mv (.t 41), none, 3⟩,
 ⟨(some 43), .faddr (.t 10) 0, (some (42, false)), 7⟩,
 ⟨(some 44), .load false 1 (.t 43), (some (42, false)), 15⟩,
 ⟨(some 45), .slen (.t 44), (some (42, false)), 31⟩,
 ⟨(some 46), .bin .neq (.t 45) (.c (.pv (.int .i64 (1)))), (some (42, false)), 63⟩,
 ⟨(some 47), .pick (.t 42) (.c (.pv (.bool true))) (.t 46), none, 127⟩,
 ⟨(some 48), .mv (.t 47), none, 255⟩,
 ⟨(some 49), .faddr (.t 10) 0, (some (48, false)), 511⟩,
 ⟨(some 50), .load false 1 (.t 49), (some (48, false)), 1023⟩,
 ⟨(some 51), .iaddr 7 (.t 50) (.c (.pv (.int .i64 (0)))), (some (48, false)), 2047⟩,
 ⟨(some 52), .load true 7 (.t 51), (some (48, false)), 4095⟩,
 ⟨(some 53), .mv (.t 9), (some (48, false)), 511⟩,
 ⟨(some 54), .bin .add (.t 53) (.c (.pv (.int .i64 (1)))), (some (48, false)), 8703⟩,
 ⟨(some 55), .call (.f n_law19_saved) [.t 54], (some (48, false)), 25087⟩,
 ⟨(some 56), .eqs true [0, 1, 0, 2, 0, 0, 0] (.t 52) (.t 55), (some (48, false)), 65535⟩,
 ⟨(some 57), .pick (.t 48) (.c (.pv (.bool true))) (.t 56), none, 131071⟩] true)
 (.cond (.t 57)
 (.seq (.reg [⟨(some 6), .mv (.c (.pv (.bool false))), none, 0⟩] false)
 (.ret))
 (.skip)))
 (.seq (.reg [⟨(some 58), .faddr (.t 10) 0, none, 0⟩,
 ⟨none, .store 1 (.t 58) (.c (.emp 7)), none, 1⟩] false)
 (.reg [⟨(some 59), .load true 67 (.t 10), none, 0⟩,
 ⟨none, .store 67 (.t 7) (.t 59), none, 1⟩] false)))))))
 (.reg [⟨(some 60), .bin .add (.t 28) (.c (.pv (.int .i64 (1)))), none, 0⟩,
 ⟨(some 28), .mv (.t 60), none, 1⟩] false)))))))
 (.seq (.reg [⟨(some 61), .mv (.t 2), none, 0⟩,
 ⟨(some 62), .conv .i64 (.t 61), none, 1⟩,
 ⟨(some 63), .mv (.t 8), none, 0⟩,
 ⟨(some 64), .bin .rem (.t 62) (.t 63), none, 7⟩,
 ⟨(some 65), .bin .add (.c (.pv (.int .i64 (1)))) (.t 64), none, 15⟩,
 ⟨(some 12), .mv (.t 65), none, 31⟩] false)
 (.seq (.reg [⟨(some 67), .load true 67 (.t 7), none, 0⟩,
 ⟨(some 68), .mv (.t 12), none, 0⟩,
 ⟨(some 69), .call (.f n_law19_saved) [.t 68], none, 2⟩,
 ⟨(some 70), .bsl 7 1 [.pv (.int .i64 (0)), .pv (.bool false), .pv (.int .i64 (0)), .pv (.str []), .pv (.int .i64 (0)), .pv (.int .i64 (0)), .pv (.int .i64 (0))] [(0, .t 69)], none, 6⟩,
 ⟨(some 71), .call (.f n_law19_with) [.t 67, .t 70], none, 15⟩,
 ⟨(some 72), .call (.f n_save_Do) [.t 71, .c (.pv (.str [114, 101, 115, 116, 111, 114, 101]))], none, 31⟩,
 ⟨(some 66), .mv (.t 72), none, 63⟩,
 ⟨(some 73), .extract (.t 66) 0, none, 127⟩,
 ⟨(some 74), .extract (.t 66) 1, none, 127⟩,
 ⟨(some 13), .alloc [.emp 7, .emp 7, .emp 7, .emp 3, .pv (.int .i64 (0)), .pv (.int .i64 (0)), .pv (.int .i64 (0)), .pv (.int .i64 (0)), .pv (.int .i64 (0)), .pv (.int .i64 (0)), .pv (.int .i64 (0)), .emp 7, .pv (.int .i64 (0)), .pv (.int .i64 (0)), .pv (.int .i64 (0)), .pv (.int .i64 (0)), .pv (.int .i64 (0)), .pv (.int .i64 (0)), .pv (.int .i64 (0)), .pv (.int .i64 (0)), .pv (.int .i64 (0)), .pv (.int .i64 (0)), .pv (.int .i64 (0)), .pv (.int .i64 (0)), .pv (.int .i64 (0)), .pv (.int .i64 (0)), .pv (.int .i64 (0)), .pv (.int .i64 (0)), .pv (.int .i64 (0)), .pv (.int .i64 (0)), .pv (.int .i64 (0)), .pv (.int .i64 (0)), .pv (.bool false), .pv (.bool false), .emp 47, .pv (.int .i64 (0)), .pv (.int .i64 (0)), .pv (.int .i64 (0)), .pv (.int .i64 (0)), .pv (.int .i64 (0)), .pv (.int .i64 (0)), .pv (.int .i64 (0)), .pv (.int .i64 (0)), .emp 1, .pv (.int .i64 (0)), .pv (.int .i64 (0)), .emp 2, .pv (.int .i64 (0)), .pv (.bool false), .pv (.int .i64 (0)), .pv (.str []), .pv (.int .i64 (0)), .pv (.int .i64 (0)), .pv (.int .i64 (0)), .pv (.int .i64 (0)), .pv (.int .i64 (0)), .pv (.int .i64 (0)), .pv (.int .i64 (0)), .pv (.int .i64 (0)), .pv (.int .i64 (0)), .pv (.int .i64 (0)), .pv (.int .i64 (0)), .emp 57, .emp 47, .emp 3, .pv (.str []), .pv (.int .i64 (0))], none, 0⟩,
 ⟨none, .store 67 (.t 13) (.t 73), none, 767⟩,
 ⟨(some 14), .mv (.t 74), none, 2047⟩] true)
 (.seq (.seq (.reg [⟨(some 75), .mv (.t 14), none, 0⟩,
 ⟨(some 76), .bin .neq (.t 75) (.c (.pv (.int .i64 (0)))), none, 1⟩,
 ⟨(some 77), .mv (.t 76), none, 3⟩,
 ⟨(some 78), .faddr (.t 13) 3, (some (77, false)), 7⟩,
 ⟨(some 79), .load false 1 (.t 78), (some (77, false)), 15⟩,
 ⟨(some 80), .slen (.t 79), (some (77, false)), 31⟩,
 ⟨(some 81), .mv (.t 12), (some (77, false)), 7⟩,
 ⟨(some 82), .bin .sub (.t 81) (.c (.pv (.int .i64 (1)))), (some (77, false)), 71⟩,
 ⟨(some 83), .bin .neq (.t 80) (.t 82), (some (77, false)), 255⟩,
 ⟨(some 84), .pick (.t 77) (.c (.pv (.bool true))) (.t 83), none, 511⟩,
 ⟨(some 85), .mv (.t 84), none, 1023⟩,
 ⟨(some 86), .faddr (.t 13) 62, (some (85, false)), 2047⟩,
 ⟨(some 87), .load false 1 (.t 86), (some (85, false)), 4095⟩,
 ⟨(some 88), .slen (.t 87), (some (85, false)), 8191⟩,
 ⟨(some 89), .mv (.t 12), (some (85, false)), 2047⟩,
 ⟨(some 90), .bin .sub (.t 89) (.c (.pv (.int .i64 (1)))), (some (85, false)), 18431⟩,
 ⟨(some 91), .bin .neq (.t 88) (.t 90), (some (85, false)), 65535⟩,
 ⟨(some 92), .pick (.t 85) (.c (.pv (.bool true))) (.t 91), none, 131071⟩,
 ⟨(some 93), .mv (.t 92), none, 262143⟩,
 ⟨(some 94), .faddr (.t 13) 5, (some (93, false)), 524287⟩,
 ⟨(some 95), .faddr (.t 94) 40, (some (93, false)), 1048575⟩,
 ⟨(some 96), .load false 1 (.t 95), (some (93, false)), 2097151⟩,
 ⟨(some 97), .mv (.t 12), (some (93, false)), 524287⟩,
 ⟨(some 98), .bin .add (.c (.pv (.int .i64 (10)))) (.t 97), (some (93, false)), 4718591⟩,
 ⟨(some 99), .bin .sub (.t 98) (.c (.pv (.int .i64 (1)))), (some (93, false)), 13107199⟩,
 ⟨(some 100), .bin .neq (.t 96) (.t 99), (some (93, false)), 33554431⟩,
 ⟨(some 101), .pick (.t 93) (.c (.pv (.bool true))) (.t 100), none, 67108863⟩,
 ⟨(some 102), .mv (.t 101), none, 134217727⟩,
 ⟨(some 103), .faddr (.t 13) 4, (some (102, false)), 268435455⟩,
 ⟨(some 104), .load false 1 (.t 103), (some (102, false)), 536870911⟩,
 ⟨(some 105), .mv (.t 8), (some (102, false)), 268435455⟩,
 ⟨(some 106), .bin .neq (.t 104) (.t 105), (some (102, false)), 2147483647⟩,
 ⟨(some 107), .pick (.t 102) (.c (.pv (.bool true))) (.t 106), none, 4294967295⟩] false)
 (.cond (.t 107)
 (.seq (.reg [⟨(some 6), .mv (.c (.pv (.bool false))), none, 0⟩] false)
 (.ret))
 (.skip)))
 (.seq (.seq (.reg [⟨(some 15), .mv (.c (.pv (.int .i64 (1)))), none, 0⟩] false)
 (.block 2
 (.loop [8, 12, 13, 15]
 (.seq (.seq (.reg [⟨(some 108), .mv (.t 15), none, 0⟩,
 ⟨(some 109), .mv (.t 8), none, 0⟩,
 ⟨(some 110), .bin .leq (.t 108) (.t 109), none, 3⟩] false)
 (.cond (.t 110)
 (.skip)
 (.exit 2)))
 (.seq (.block 3
 (.seq (.reg [⟨(some 114), .load true 67 (.t 13), none, 0⟩,
 ⟨(some 115), .mv (.t 15), none, 0⟩,
 ⟨(some 116), .call (.f n_law19_saved) [.t 115], none, 2⟩,
 ⟨(some 117), .bsl 7 1 [.pv (.int .i64 (0)), .pv (.bool false), .pv (.int .i64 (0)), .pv (.str []), .pv (.int .i64 (0)), .pv (.int .i64 (0)), .pv (.int .i64 (0))] [(0, .t 116)], none, 6⟩,
 ⟨(some 118), .call (.f n_law19_with) [.t 114, .t 117], none, 15⟩,
 ⟨(some 119), .call (.f n_save_Do) [.t 118, .c (.pv (.str [114, 101, 115, 116, 111, 114, 101]))], none, 31⟩,
 ⟨(some 113), .mv (.t 119), none, 63⟩,
 ⟨(some 120), .extract (.t 113) 0, none, 127⟩,
 ⟨(some 121), .extract (.t 113) 1, none, 127⟩,
 ⟨(some 16), .alloc [.emp 7, .emp 7, .emp 7, .emp 3, .pv (.int .i64 (0)), .pv (.int .i64 (0)), .pv (.int .i64 (0)), .pv (.int .i64 (0)), .pv (.int .i64 (0)), .pv (.int .i64 (0)), .pv (.int .i64 (0)), .emp 7, .pv (.int .i64 (0)), .pv (.int .i64 (0)), .pv (.int .i64 (0)), .pv (.int .i64 (0)), .pv (.int .i64 (0)), .pv (.int .i64 (0)), .pv (.int .i64 (0)), .pv (.int .i64 (0)), .pv (.int .i64 (0)), .pv (.int .i64 (0)), .pv (.int .i64 (0)), .pv (.int .i64 (0)), .pv (.int .i64 (0)), .pv (.int .i64 (0)), .pv (.int .i64 (0)), .pv (.int .i64 (0)), .pv (.int .i64 (0)), .pv (.int .i64 (0)), .pv (.int .i64 (0)), .pv (.int .i64 (0)), .pv (.bool false), .pv (.bool false), .emp 47, .pv (.int .i64 (0)), .pv (.int .i64 (0)), .pv (.int .i64 (0)), .pv (.int .i64 (0)), .pv (.int .i64 (0)), .pv (.int .i64 (0)), .pv (.int .i64 (0)), .pv (.int .i64 (0)), .emp 1, .pv (.int .i64 (0)), .pv (.int .i64 (0)), .emp 2, .pv (.int .i64 (0)), .pv (.bool false), .pv (.int .i64 (0)), .pv (.str []), .pv (.int .i64 (0)), .pv (.int .i64 (0)), .pv (.int .i64 (0)), .pv (.int .i64 (0)), .pv (.int .i64 (0)), .pv (.int .i64 (0)), .pv (.int .i64 (0)), .pv (.int .i64 (0)), .pv (.int .i64 (0)), .pv (.int .i64 (0)), .pv (.int .i64 (0)), .emp 57, .emp 47, .emp 3, .pv (.str []), .pv (.int .i64 (0))], none, 0⟩,
 ⟨none, .store 67 (.t 16) (.t 120), none, 767⟩,
 ⟨(some 17), .mv (.t 121), none, 2047⟩] true)
 (.seq (.reg [⟨(some 122), .mv (.t 15), none, 0⟩,
 ⟨(some 123), .mv (.t 12), none, 0⟩,
 ⟨(some 124), .bin .lss (.t 122) (.t 123), none, 3⟩,
 ⟨(some 125), .mv (.t 124), none, 7⟩,
 ⟨(some 126), .mv (.t 17), (some (125, true)), 15⟩,
 ⟨(some 127), .bin .neq (.t 126) (.c (.pv (.int .i64 (0)))), (some (125, true)), 31⟩,
 ⟨(some 128), .mv (.t 127), (some (125, true)), 63⟩,
 ⟨(some 129), .faddr (.t 16) 5, (some (128, false)), 127⟩,
 ⟨(some 130), .faddr (.t 129) 40, (some (128, false)), 255⟩,
 ⟨(some 131), .load false 1 (.t 130), (some (128, false)), 511⟩,
 ⟨(some 132), .mv (.t 15), (some (128, false)), 127⟩,
 ⟨(some 133), .bin .add (.c (.pv (.int .i64 (10)))) (.t 132), (some (128, false)), 1151⟩,
 ⟨(some 134), .bin .sub (.t 133) (.c (.pv (.int .i64 (1)))), (some (128, false)), 3199⟩,
 ⟨(some 135), .bin .neq (.t 131) (.t 134), (some (128, false)), 8191⟩,
 ⟨(some 136), .pick (.t 128) (.c (.pv (.bool true))) (.t 135), (some (125, true)), 16383⟩,
 ⟨(some 137), .pick (.t 125) (.t 136) (.c (.pv (.bool false))), none, 32767⟩,
 ⟨(some 138), .mv (.t 137), none, 65535⟩,
 ⟨(some 139), .mv (.t 15), (some (138, false)), 131071⟩,
 ⟨(some 140), .mv (.t 12), (some (138, false)), 131071⟩,
 ⟨(some 141), .bin .geq (.t 139) (.t 140), (some (138, false)), 524287⟩,
 ⟨(some 142), .mv (.t 141), (some (138, false)), 1048575⟩,
 ⟨(some 143), .mv (.t 17), (some (142, true)), 2097151⟩,
 ⟨(some 144), .bin .neq (.t 143) (.c (.pv (.int .i64 (34)))), (some (142, true)), 4194303⟩,
 ⟨(some 145), .pick (.t 142) (.t 144) (.c (.pv (.bool false))), (some (138, false)), 8388607⟩,
 ⟨(some 146), .pick (.t 138) (.c (.pv (.bool true))) (.t 145), none, 16777215⟩] false)
 (.cond (.t 146)
 (.seq (.reg [⟨(some 6), .mv (.c (.pv (.bool false))), none, 0⟩] false)
 (.ret))
 (.skip)))))
 (.reg [⟨(some 111), .mv (.t 15), none, 0⟩,
 ⟨(some 112), .bin .add (.t 111) (.c (.pv (.int .i64 (1)))), none, 1⟩,
 ⟨(some 15), .mv (.t 112), none, 3⟩] false))))))
 (.seq (.reg [⟨(some 6), .mv (.c (.pv (.bool true))), none, 0⟩] false)
 (.ret)))))))))))⟩
def c_law19_wakes : RFn := ⟨0, 157, [.tmp 0],
 .seq (.reg [⟨(some 0), .mv (.c (.pv (.bool false))), none, 0⟩] false)
 (.seq (.reg [⟨(some 19), .call (.f n_law19_first) [], none, 0⟩,
 ⟨(some 20), .call (.f n_save_Do) [.t 19, .c (.pv (.str [115, 97, 118, 101]))], none, 1⟩,
 ⟨(some 18), .mv (.t 20), none, 3⟩,
 ⟨(some 21), .extract (.t 18) 0, none, 7⟩,
 ⟨(some 22), .extract (.t 18) 1, none, 7⟩,
 ⟨(some 1), .alloc [.emp 7, .emp 7, .emp 7, .emp 3, .pv (.int .i64 (0)), .pv (.int .i64 (0)), .pv (.int .i64 (0)), .pv (.int .i64 (0)), .pv (.int .i64 (0)), .pv (.int .i64 (0)), .pv (.int .i64 (0)), .emp 7, .pv (.int .i64 (0)), .pv (.int .i64 (0)), .pv (.int .i64 (0)), .pv (.int .i64 (0)), .pv (.int .i64 (0)), .pv (.int .i64 (0)), .pv (.int .i64 (0)), .pv (.int .i64 (0)), .pv (.int .i64 (0)), .pv (.int .i64 (0)), .pv (.int .i64 (0)), .pv (.int .i64 (0)), .pv (.int .i64 (0)), .pv (.int .i64 (0)), .pv (.int .i64 (0)), .pv (.int .i64 (0)), .pv (.int .i64 (0)), .pv (.int .i64 (0)), .pv (.int .i64 (0)), .pv (.int .i64 (0)), .pv (.bool false), .pv (.bool false), .emp 47, .pv (.int .i64 (0)), .pv (.int .i64 (0)), .pv (.int .i64 (0)), .pv (.int .i64 (0)), .pv (.int .i64 (0)), .pv (.int .i64 (0)), .pv (.int .i64 (0)), .pv (.int .i64 (0)), .emp 1, .pv (.int .i64 (0)), .pv (.int .i64 (0)), .emp 2, .pv (.int .i64 (0)), .pv (.bool false), .pv (.int .i64 (0)), .pv (.str []), .pv (.int .i64 (0)), .pv (.int .i64 (0)), .pv (.int .i64 (0)), .pv (.int .i64 (0)), .pv (.int .i64 (0)), .pv (.int .i64 (0)), .pv (.int .i64 (0)), .pv (.int .i64 (0)), .pv (.int .i64 (0)), .pv (.int .i64 (0)), .pv (.int .i64 (0)), .emp 57, .emp 47, .emp 3, .pv (.str []), .pv (.int .i64 (0))], none, 0⟩,
 ⟨none, .store 67 (.t 1) (.t 21), none, 47⟩,
 ⟨(some 2), .mv (.t 22), none, 127⟩] false)
 (.seq (.seq (.reg [⟨(some 23), .mv (.t 2), none, 0⟩,
 ⟨(some 24), .bin .neq (.t 23) (.c (.pv (.int .i64 (0)))), none, 1⟩,
 ⟨(some 25), .mv (.t 24), none, 3⟩,
 ⟨(some 26), .faddr (.t 1) 0, (some (25, false)), 7⟩,
 ⟨(some 27), .load false 1 (.t 26), (some (25, false)), 15⟩,
 ⟨(some 28), .call (.f n_law19_saved) [.c (.pv (.int .i64 (1)))], (some (25, false)), 7⟩,
 ⟨(some 29), .bsl 7 1 [.pv (.int .i64 (0)), .pv (.bool false), .pv (.int .i64 (0)), .pv (.str []), .pv (.int .i64 (0)), .pv (.int .i64 (0)), .pv (.int .i64 (0))] [(0, .t 28)], (some (25, false)), 39⟩,
 ⟨(some 30), .call (.f n_slices_Equal_Obj) [.t 27, .t 29], (some (25, false)), 127⟩,
 ⟨(some 31), .not (.t 30), (some (25, false)), 255⟩,
 ⟨(some 32), .pick (.t 25) (.c (.pv (.bool true))) (.t 31), none, 511⟩,
 ⟨(some 33), .mv (.t 32), none, 1023⟩,
 ⟨(some 34), .faddr (.t 1) 3, (some (33, false)), 2047⟩,
 ⟨(some 35), .load false 1 (.t 34), (some (33, false)), 4095⟩,
 ⟨(some 36), .slen (.t 35), (some (33, false)), 8191⟩,
 ⟨(some 37), .bin .neq (.t 36) (.c (.pv (.int .i64 (1)))), (some (33, false)), 16383⟩,
 ⟨(some 38), .pick (.t 33) (.c (.pv (.bool true))) (.t 37), none, 32767⟩,
 ⟨(some 39), .mv (.t 38), none, 65535⟩,
 ⟨(some 40), .faddr (.t 1) 62, (some (39, false)), 131071⟩,
 ⟨(some 41), .load false 1 (.t 40), (some (39, false)), 262143⟩,
 ⟨(some 42), .slen (.t 41), (some (39, false)), 524287⟩,
 ⟨(some 43), .bin .neq (.t 42) (.c (.pv (.int .i64 (1)))), (some (39, false)), 1048575⟩,
 ⟨(some 44), .pick (.t 39) (.c (.pv (.bool true))) (.t 43), none, 2097151⟩,
 ⟨(some 45), .mv (.t 44), none, 4194303⟩,
 ⟨(some 46), .faddr (.t 1) 4, (some (45, false)), 8388607⟩,
 ⟨(some 47), .load false 1 (.t 46), (some (45, false)), 16777215⟩,
 ⟨(some 48), .bin .neq (.t 47) (.c (.pv (.int .i64 (1)))), (some (45, false)), 33554431⟩,
 ⟨(some 49), .pick (.t 45) (.c (.pv (.bool true))) (.t 48), none, 67108863⟩] true)
 (.cond (.t 49)
 (.seq (.reg [⟨(some 0), .mv (.c (.pv (.bool false))), none, 0⟩] false)
 (.ret))
 (.skip)))
 (.seq (.reg [⟨(some 50), .build [.pv (.int .i64 (0)), .pv (.bool false), .pv (.int .i64 (0)), .pv (.str []), .pv (.int .i64 (0)), .pv (.int .i64 (0)), .pv (.int .i64 (0))] [(0, 1, .c (.pv (.int .i64 (6)))), (4, 1, .c (.pv (.int .i64 (10)))), (6, 1, .c (.pv (.int .i64 (3))))], none, 0⟩,
 ⟨(some 3), .alloc [.pv (.int .i64 (0)), .pv (.bool false), .pv (.int .i64 (0)), .pv (.str []), .pv (.int .i64 (0)), .pv (.int .i64 (0)), .pv (.int .i64 (0))], none, 0⟩,
 ⟨none, .store 7 (.t 3) (.t 50), none, 3⟩] false)
 (.seq (.reg [⟨(some 52), .faddr (.t 1) 2, none, 0⟩,
 ⟨(some 53), .load false 1 (.t 52), none, 1⟩,
 ⟨(some 54), .load true 7 (.t 3), none, 0⟩,
 ⟨(some 55), .call (.f n_heap_PutBytes) [.t 53, .t 54, .c (.pv (.int .i64 (0))), .c (.pv (.str [65]))], none, 7⟩,
 ⟨(some 51), .mv (.t 55), none, 15⟩,
 ⟨(some 56), .extract (.t 51) 0, none, 31⟩,
 ⟨(some 57), .extract (.t 51) 1, none, 31⟩,
 ⟨(some 4), .mv (.t 56), none, 63⟩,
 ⟨(some 5), .mv (.t 57), none, 255⟩] false)
 (.seq (.reg [⟨(some 58), .load true 67 (.t 1), none, 0⟩,
 ⟨(some 6), .alloc [.emp 7, .emp 7, .emp 7, .emp 3, .pv (.int .i64 (0)), .pv (.int .i64 (0)), .pv (.int .i64 (0)), .pv (.int .i64 (0)), .pv (.int .i64 (0)), .pv (.int .i64 (0)), .pv (.int .i64 (0)), .emp 7, .pv (.int .i64 (0)), .pv (.int .i64 (0)), .pv (.int .i64 (0)), .pv (.int .i64 (0)), .pv (.int .i64 (0)), .pv (.int .i64 (0)), .pv (.int .i64 (0)), .pv (.int .i64 (0)), .pv (.int .i64 (0)), .pv (.int .i64 (0)), .pv (.int .i64 (0)), .pv (.int .i64 (0)), .pv (.int .i64 (0)), .pv (.int .i64 (0)), .pv (.int .i64 (0)), .pv (.int .i64 (0)), .pv (.int .i64 (0)), .pv (.int .i64 (0)), .pv (.int .i64 (0)), .pv (.int .i64 (0)), .pv (.bool false), .pv (.bool false), .emp 47, .pv (.int .i64 (0)), .pv (.int .i64 (0)), .pv (.int .i64 (0)), .pv (.int .i64 (0)), .pv (.int .i64 (0)), .pv (.int .i64 (0)), .pv (.int .i64 (0)), .pv (.int .i64 (0)), .emp 1, .pv (.int .i64 (0)), .pv (.int .i64 (0)), .emp 2, .pv (.int .i64 (0)), .pv (.bool false), .pv (.int .i64 (0)), .pv (.str []), .pv (.int .i64 (0)), .pv (.int .i64 (0)), .pv (.int .i64 (0)), .pv (.int .i64 (0)), .pv (.int .i64 (0)), .pv (.int .i64 (0)), .pv (.int .i64 (0)), .pv (.int .i64 (0)), .pv (.int .i64 (0)), .pv (.int .i64 (0)), .pv (.int .i64 (0)), .emp 57, .emp 47, .emp 3, .pv (.str []), .pv (.int .i64 (0))], none, 0⟩,
 ⟨none, .store 67 (.t 6) (.t 58), none, 3⟩] false)
 (.seq (.reg [⟨(some 59), .mv (.t 4), none, 0⟩,
 ⟨(some 60), .faddr (.t 6) 2, none, 1⟩,
 ⟨none, .store 1 (.t 60) (.t 59), none, 3⟩,
 ⟨(some 61), .faddr (.t 6) 5, none, 7⟩,
 ⟨(some 62), .faddr (.t 61) 40, none, 15⟩,
 ⟨none, .store 1 (.t 62) (.c (.pv (.int .i64 (9)))), none, 31⟩] false)
 (.seq (.reg [⟨(some 64), .load true 67 (.t 6), none, 0⟩,
 ⟨(some 65), .call (.f n_save_Do) [.t 64, .c (.pv (.str [114, 101, 115, 116, 111, 114, 101]))], none, 1⟩,
 ⟨(some 63), .mv (.t 65), none, 3⟩,
 ⟨(some 66), .extract (.t 63) 0, none, 7⟩,
 ⟨(some 67), .extract (.t 63) 1, none, 7⟩,
 ⟨(some 7), .alloc [.emp 7, .emp 7, .emp 7, .emp 3, .pv (.int .i64 (0)), .pv (.int .i64 (0)), .pv (.int .i64 (0)), .pv (.int .i64 (0)), .pv (.int .i64 (0)), .pv (.int .i64 (0)), .pv (.int .i64 (0)), .emp 7, .pv (.int .i64 (0)), .pv (.int .i64 (0)), .pv (.int .i64 (0)), .pv (.int .i64 (0)), .pv (.int .i64 (0)), .pv (.int .i64 (0)), .pv (.int .i64 (0)), .pv (.int .i64 (0)), .pv (.int .i64 (0)), .pv (.int .i64 (0)), .pv (.int .i64 (0)), .pv (.int .i64 (0)), .pv (.int .i64 (0)), .pv (.int .i64 (0)), .pv (.int .i64 (0)), .pv (.int .i64 (0)), .pv (.int .i64 (0)), .pv (.int .i64 (0)), .pv (.int .i64 (0)), .pv (.int .i64 (0)), .pv (.bool false), .pv (.bool false), .emp 47, .pv (.int .i64 (0)), .pv (.int .i64 (0)), .pv (.int .i64 (0)), .pv (.int .i64 (0)), .pv (.int .i64 (0)), .pv (.int .i64 (0)), .pv (.int .i64 (0)), .pv (.int .i64 (0)), .emp 1, .pv (.int .i64 (0)), .pv (.int .i64 (0)), .emp 2, .pv (.int .i64 (0)), .pv (.bool false), .pv (.int .i64 (0)), .pv (.str []), .pv (.int .i64 (0)), .pv (.int .i64 (0)), .pv (.int .i64 (0)), .pv (.int .i64 (0)), .pv (.int .i64 (0)), .pv (.int .i64 (0)), .pv (.int .i64 (0)), .pv (.int .i64 (0)), .pv (.int .i64 (0)), .pv (.int .i64 (0)), .pv (.int .i64 (0)), .emp 57, .emp 47, .emp 3, .pv (.str []), .pv (.int .i64 (0))], none, 0⟩,
 ⟨none, .store 67 (.t 7) (.t 66), none, 47⟩,
 ⟨(some 8), .mv (.t 67), none, 127⟩] false)
 (.seq (.reg [⟨(some 69), .load true 67 (.t 7), none, 0⟩,
 ⟨(some 70), .call (.f n_law19_saved) [.c (.pv (.int .i64 (1)))], none, 0⟩,
 ⟨(some 71), .bsl 7 1 [.pv (.int .i64 (0)), .pv (.bool false), .pv (.int .i64 (0)), .pv (.str []), .pv (.int .i64 (0)), .pv (.int .i64 (0)), .pv (.int .i64 (0))] [(0, .t 70)], none, 2⟩,
 ⟨(some 72), .call (.f n_law19_with) [.t 69, .t 71], none, 7⟩,
 ⟨(some 73), .call (.f n_save_Do) [.t 72, .c (.pv (.str [114, 101, 115, 116, 111, 114, 101]))], none, 15⟩,
 ⟨(some 68), .mv (.t 73), none, 31⟩,
 ⟨(some 74), .extract (.t 68) 0, none, 63⟩,
 ⟨(some 75), .extract (.t 68) 1, none, 63⟩,
 ⟨(some 9), .alloc [.emp 7, .emp 7, .emp 7, .emp 3, .pv (.int .i64 (0)), .pv (.int .i64 (0)), .pv (.int .i64 (0)), .pv (.int .i64 (0)), .pv (.int .i64 (0)), .pv (.int .i64 (0)), .pv (.int .i64 (0)), .emp 7, .pv (.int .i64 (0)), .pv (.int .i64 (0)), .pv (.int .i64 (0)), .pv (.int .i64 (0)), .pv (.int .i64 (0)), .pv (.int .i64 (0)), .pv (.int .i64 (0)), .pv (.int .i64 (0)), .pv (.int .i64 (0)), .pv (.int .i64 (0)), .pv (.int .i64 (0)), .pv (.int .i64 (0)), .pv (.int .i64 (0)), .pv (.int .i64 (0)), .pv (.int .i64 (0)), .pv (.int .i64 (0)), .pv (.int .i64 (0)), .pv (.int .i64 (0)), .pv (.int .i64 (0)), .pv (.int .i64 (0)), .pv (.bool false), .pv (.bool false), .emp 47, .pv (.int .i64 (0)), .pv (.int .i64 (0)), .pv (.int .i64 (0)), .pv (.int .i64 (0)), .pv (.int .i64 (0)), .pv (.int .i64 (0)), .pv (.int .i64 (0)), .pv (.int .i64 (0)), .emp 1, .pv (.int .i64 (0)), .pv (.int .i64 (0)), .emp 2, .pv (.int .i64 (0)), .pv (.bool false), .pv (.int .i64 (0)), .pv (.str []), .pv (.int .i64 (0)), .pv (.int .i64 (0)), .pv (.int .i64 (0)), .pv (.int .i64 (0)), .pv (.int .i64 (0)), .pv (.int .i64 (0)), .pv (.int .i64 (0)), .pv (.int .i64 (0)), .pv (.int .i64 (0)), .pv (.int .i64 (0)), .pv (.int .i64 (0)), .emp 57, .emp 47, .emp 3, .pv (.str []), .pv (.int .i64 (0))], none, 0⟩,
 ⟨none, .store 67 (.t 9) (.t 74), none, 383⟩,
 ⟨(some 10), .mv (.t 75), none, 1023⟩] true)
 (.seq (.reg [⟨(some 77), .load true 67 (.t 1), none, 0⟩,
 ⟨(some 78), .call (.f n_save_Cells) [.t 77, .c (.pv (.int .i64 (1)))], none, 1⟩,
 ⟨(some 76), .mv (.t 78), none, 3⟩,
 ⟨(some 79), .extract (.t 76) 0, none, 7⟩,
 ⟨(some 80), .extract (.t 76) 1, none, 7⟩,
 ⟨(some 11), .mv (.t 79), none, 15⟩,
 ⟨(some 12), .mv (.t 80), none, 63⟩] false)
 (.seq (.reg [⟨(some 82), .load true 67 (.t 1), none, 0⟩,
 ⟨(some 83), .call (.f n_save_Do) [.t 82, .c (.pv (.str [118, 109, 115, 116, 97, 116, 117, 115]))], none, 1⟩,
 ⟨(some 81), .mv (.t 83), none, 3⟩,
 ⟨(some 84), .extract (.t 81) 0, none, 7⟩,
 ⟨(some 85), .extract (.t 81) 1, none, 7⟩,
 ⟨(some 13), .alloc [.emp 7, .emp 7, .emp 7, .emp 3, .pv (.int .i64 (0)), .pv (.int .i64 (0)), .pv (.int .i64 (0)), .pv (.int .i64 (0)), .pv (.int .i64 (0)), .pv (.int .i64 (0)), .pv (.int .i64 (0)), .emp 7, .pv (.int .i64 (0)), .pv (.int .i64 (0)), .pv (.int .i64 (0)), .pv (.int .i64 (0)), .pv (.int .i64 (0)), .pv (.int .i64 (0)), .pv (.int .i64 (0)), .pv (.int .i64 (0)), .pv (.int .i64 (0)), .pv (.int .i64 (0)), .pv (.int .i64 (0)), .pv (.int .i64 (0)), .pv (.int .i64 (0)), .pv (.int .i64 (0)), .pv (.int .i64 (0)), .pv (.int .i64 (0)), .pv (.int .i64 (0)), .pv (.int .i64 (0)), .pv (.int .i64 (0)), .pv (.int .i64 (0)), .pv (.bool false), .pv (.bool false), .emp 47, .pv (.int .i64 (0)), .pv (.int .i64 (0)), .pv (.int .i64 (0)), .pv (.int .i64 (0)), .pv (.int .i64 (0)), .pv (.int .i64 (0)), .pv (.int .i64 (0)), .pv (.int .i64 (0)), .emp 1, .pv (.int .i64 (0)), .pv (.int .i64 (0)), .emp 2, .pv (.int .i64 (0)), .pv (.bool false), .pv (.int .i64 (0)), .pv (.str []), .pv (.int .i64 (0)), .pv (.int .i64 (0)), .pv (.int .i64 (0)), .pv (.int .i64 (0)), .pv (.int .i64 (0)), .pv (.int .i64 (0)), .pv (.int .i64 (0)), .pv (.int .i64 (0)), .pv (.int .i64 (0)), .pv (.int .i64 (0)), .pv (.int .i64 (0)), .emp 57, .emp 47, .emp 3, .pv (.str []), .pv (.int .i64 (0))], none, 0⟩,
 ⟨none, .store 67 (.t 13) (.t 84), none, 47⟩,
 ⟨(some 14), .mv (.t 85), none, 127⟩] false)
 (.seq (.reg [⟨(some 87), .load true 67 (.t 1), none, 0⟩,
 ⟨(some 88), .load true 7 (.t 3), none, 0⟩,
 ⟨(some 89), .bsl 7 1 [.pv (.int .i64 (0)), .pv (.bool false), .pv (.int .i64 (0)), .pv (.str []), .pv (.int .i64 (0)), .pv (.int .i64 (0)), .pv (.int .i64 (0))] [(0, .t 88)], none, 2⟩,
 ⟨(some 90), .call (.f n_law19_with) [.t 87, .t 89], none, 7⟩,
 ⟨(some 91), .call (.f n_save_Do) [.t 90, .c (.pv (.str [114, 101, 115, 116, 111, 114, 101]))], none, 15⟩,
 ⟨(some 86), .mv (.t 91), none, 31⟩,
 ⟨(some 92), .extract (.t 86) 0, none, 63⟩,
 ⟨(some 93), .extract (.t 86) 1, none, 63⟩,
 ⟨(some 15), .alloc [.emp 7, .emp 7, .emp 7, .emp 3, .pv (.int .i64 (0)), .pv (.int .i64 (0)), .pv (.int .i64 (0)), .pv (.int .i64 (0)), .pv (.int .i64 (0)), .pv (.int .i64 (0)), .pv (.int .i64 (0)), .emp 7, .pv (.int .i64 (0)), .pv (.int .i64 (0)), .pv (.int .i64 (0)), .pv (.int .i64 (0)), .pv (.int .i64 (0)), .pv (.int .i64 (0)), .pv (.int .i64 (0)), .pv (.int .i64 (0)), .pv (.int .i64 (0)), .pv (.int .i64 (0)), .pv (.int .i64 (0)), .pv (.int .i64 (0)), .pv (.int .i64 (0)), .pv (.int .i64 (0)), .pv (.int .i64 (0)), .pv (.int .i64 (0)), .pv (.int .i64 (0)), .pv (.int .i64 (0)), .pv (.int .i64 (0)), .pv (.int .i64 (0)), .pv (.bool false), .pv (.bool false), .emp 47, .pv (.int .i64 (0)), .pv (.int .i64 (0)), .pv (.int .i64 (0)), .pv (.int .i64 (0)), .pv (.int .i64 (0)), .pv (.int .i64 (0)), .pv (.int .i64 (0)), .pv (.int .i64 (0)), .emp 1, .pv (.int .i64 (0)), .pv (.int .i64 (0)), .emp 2, .pv (.int .i64 (0)), .pv (.bool false), .pv (.int .i64 (0)), .pv (.str []), .pv (.int .i64 (0)), .pv (.int .i64 (0)), .pv (.int .i64 (0)), .pv (.int .i64 (0)), .pv (.int .i64 (0)), .pv (.int .i64 (0)), .pv (.int .i64 (0)), .pv (.int .i64 (0)), .pv (.int .i64 (0)), .pv (.int .i64 (0)), .pv (.int .i64 (0)), .emp 57, .emp 47, .emp 3, .pv (.str []), .pv (.int .i64 (0))], none, 0⟩,
 ⟨none, .store 67 (.t 15) (.t 92), none, 383⟩,
 ⟨(some 16), .mv (.t 93), none, 1023⟩] false)
 (.seq (.reg [⟨(some 94), .call (.f n_law19_first) [], none, 0⟩,
 ⟨(some 17), .alloc [.emp 7, .emp 7, .emp 7, .emp 3, .pv (.int .i64 (0)), .pv (.int .i64 (0)), .pv (.int .i64 (0)), .pv (.int .i64 (0)), .pv (.int .i64 (0)), .pv (.int .i64 (0)), .pv (.int .i64 (0)), .emp 7, .pv (.int .i64 (0)), .pv (.int .i64 (0)), .pv (.int .i64 (0)), .pv (.int .i64 (0)), .pv (.int .i64 (0)), .pv (.int .i64 (0)), .pv (.int .i64 (0)), .pv (.int .i64 (0)), .pv (.int .i64 (0)), .pv (.int .i64 (0)), .pv (.int .i64 (0)), .pv (.int .i64 (0)), .pv (.int .i64 (0)), .pv (.int .i64 (0)), .pv (.int .i64 (0)), .pv (.int .i64 (0)), .pv (.int .i64 (0)), .pv (.int .i64 (0)), .pv (.int .i64 (0)), .pv (.int .i64 (0)), .pv (.bool false), .pv (.bool false), .emp 47, .pv (.int .i64 (0)), .pv (.int .i64 (0)), .pv (.int .i64 (0)), .pv (.int .i64 (0)), .pv (.int .i64 (0)), .pv (.int .i64 (0)), .pv (.int .i64 (0)), .pv (.int .i64 (0)), .emp 1, .pv (.int .i64 (0)), .pv (.int .i64 (0)), .emp 2, .pv (.int .i64 (0)), .pv (.bool false), .pv (.int .i64 (0)), .pv (.str []), .pv (.int .i64 (0)), .pv (.int .i64 (0)), .pv (.int .i64 (0)), .pv (.int .i64 (0)), .pv (.int .i64 (0)), .pv (.int .i64 (0)), .pv (.int .i64 (0)), .pv (.int .i64 (0)), .pv (.int .i64 (0)), .pv (.int .i64 (0)), .pv (.int .i64 (0)), .emp 57, .emp 47, .emp 3, .pv (.str []), .pv (.int .i64 (0))], none, 0⟩,
 ⟨none, .store 67 (.t 17) (.t 94), none, 3⟩] false)
 (.seq (.reg [⟨(some 95), .faddr (.t 17) 4, none, 0⟩,
 ⟨none, .store 1 (.t 95) (.c (.pv (.int .i64 (1)))), none, 1⟩] false)
 (.seq (.reg [⟨(some 96), .mv (.t 5), none, 0⟩,
 ⟨(some 97), .bin .eql (.t 96) (.c (.pv (.int .i64 (0)))), none, 1⟩,
 ⟨(some 98), .mv (.t 97), none, 3⟩,
 ⟨(some 99), .mv (.t 8), (some (98, true)), 7⟩,
 ⟨(some 100), .bin .eql (.t 99) (.c (.pv (.int .i64 (0)))), (some (98, true)), 15⟩,
 ⟨(some 101), .pick (.t 98) (.t 100) (.c (.pv (.bool false))), none, 31⟩,
 ⟨(some 102), .mv (.t 101), none, 63⟩,
 ⟨(some 103), .load true 67 (.t 7), (some (102, true)), 127⟩,
 ⟨(some 104), .load true 67 (.t 17), (some (102, true)), 127⟩,
 ⟨(some 105), .call (.f n_ref11_SameState) [.t 103, .t 104], (some (102, true)), 511⟩,
 ⟨(some 106), .pick (.t 102) (.t 105) (.c (.pv (.bool false))), none, 1023⟩,
 ⟨(some 107), .mv (.t 106), none, 2047⟩,
 ⟨(some 108), .mv (.t 10), (some (107, true)), 4095⟩,
 ⟨(some 109), .bin .eql (.t 108) (.c (.pv (.int .i64 (34)))), (some (107, true)), 8191⟩,
 ⟨(some 110), .pick (.t 107) (.t 109) (.c (.pv (.bool false))), none, 16383⟩,
 ⟨(some 111), .mv (.t 110), none, 32767⟩,
 ⟨(some 112), .mv (.t 11), (some (111, true)), 65535⟩,
 ⟨(some 113), .bin .eql (.t 112) (.c (.pv (.int .i64 (11)))), (some (111, true)), 131071⟩,
 ⟨(some 114), .pick (.t 111) (.t 113) (.c (.pv (.bool false))), none, 262143⟩,
 ⟨(some 115), .mv (.t 114), none, 524287⟩,
 ⟨(some 116), .mv (.t 12), (some (115, true)), 1048575⟩,
 ⟨(some 117), .pick (.t 115) (.t 116) (.c (.pv (.bool false))), none, 2097151⟩,
 ⟨(some 118), .mv (.t 117), none, 4194303⟩,
 ⟨(some 119), .mv (.t 14), (some (118, true)), 8388607⟩,
 ⟨(some 120), .bin .eql (.t 119) (.c (.pv (.int .i64 (0)))), (some (118, true)), 16777215⟩,
 ⟨(some 121), .pick (.t 118) (.t 120) (.c (.pv (.bool false))), none, 33554431⟩,
 ⟨(some 122), .mv (.t 121), none, 67108863⟩,
 ⟨(some 123), .faddr (.t 13) 0, (some (122, true)), 134217727⟩,
 ⟨(some 124), .load false 1 (.t 123), (some (122, true)), 268435455⟩,
 ⟨(some 125), .slen (.t 124), (some (122, true)), 536870911⟩,
 ⟨(some 126), .bin .eql (.t 125) (.c (.pv (.int .i64 (4)))), (some (122, true)), 1073741823⟩,
 ⟨(some 127), .pick (.t 122) (.t 126) (.c (.pv (.bool false))), none, 2147483647⟩,
 ⟨(some 128), .mv (.t 127), none, 4294967295⟩,
 ⟨(some 129), .faddr (.t 13) 0, (some (128, true)), 8589934591⟩,
 ⟨(some 130), .load false 1 (.t 129), (some (128, true)), 17179869183⟩,
 ⟨(some 131), .iaddr 7 (.t 130) (.c (.pv (.int .i64 (1)))), (some (128, true)), 34359738367⟩,
 ⟨(some 132), .faddr (.t 131) 2, (some (128, true)), 68719476735⟩,
 ⟨(some 133), .load false 1 (.t 132), (some (128, true)), 137438953471⟩,
 ⟨(some 134), .bin .eql (.t 133) (.c (.pv (.int .i64 (1)))), (some (128, true)), 274877906943⟩,
 ⟨(some 135), .pick (.t 128) (.t 134) (.c (.pv (.bool false))), none, 549755813887⟩,
 ⟨(some 136), .mv (.t 135), none, 1099511627775⟩,
 ⟨(some 137), .faddr (.t 13) 0, (some (136, true)), 2199023255551⟩,
 ⟨(some 138), .load false 1 (.t 137), (some (136, true)), 4398046511103⟩,
 ⟨(some 139), .iaddr 7 (.t 138) (.c (.pv (.int .i64 (3)))), (some (136, true)), 8796093022207⟩,
 ⟨(some 140), .faddr (.t 139) 2, (some (136, true)), 17592186044415⟩,
 ⟨(some 141), .load false 1 (.t 140), (some (136, true)), 35184372088831⟩,
 ⟨(some 142), .bin .eql (.t 141) (.c (.pv (.int .i64 (20000)))), (some (136, true)), 70368744177663⟩,
 ⟨(some 143), .pick (.t 136) (.t 142) (.c (.pv (.bool false))), none, 140737488355327⟩,
 ⟨(some 144), .mv (.t 143), none, 281474976710655⟩,
 ⟨(some 145), .mv (.t 16), (some (144, true)), 562949953421311⟩,
 ⟨(some 146), .bin .eql (.t 145) (.c (.pv (.int .i64 (22)))), (some (144, true)), 1125899906842623⟩,
 ⟨(some 147), .pick (.t 144) (.t 146) (.c (.pv (.bool false))), none, 2251799813685247⟩,
 ⟨(some 148), .mv (.t 147), none, 4503599627370495⟩,
 ⟨(some 149), .load true 7 (.t 3), (some (148, true)), 9007199254740991⟩,
 ⟨(some 150), .call (.f n_save_Newer) [.t 149, .c (.pv (.int .i64 (10)))], (some (148, true)), 18014398509481983⟩,
 ⟨(some 151), .pick (.t 148) (.t 150) (.c (.pv (.bool false))), none, 36028797018963967⟩,
 ⟨(some 152), .mv (.t 151), none, 72057594037927935⟩,
 ⟨(some 153), .load true 7 (.t 3), (some (152, true)), 144115188075855871⟩,
 ⟨(some 154), .call (.f n_save_Newer) [.t 153, .c (.pv (.int .i64 (11)))], (some (152, true)), 288230376151711743⟩,
 ⟨(some 155), .not (.t 154), (some (152, true)), 576460752303423487⟩,
 ⟨(some 156), .pick (.t 152) (.t 155) (.c (.pv (.bool false))), none, 1152921504606846975⟩,
 ⟨(some 0), .mv (.t 156), none, 2305843009213693951⟩] false)
 (.ret)))))))))))))))⟩
def c_law19_start : RFn := ⟨1, 9, [.cell 2 true 67],
 .seq (.reg [⟨(some 1), .box 3 (.t 0), none, 0⟩,
 ⟨(some 2), .alloc [.emp 7, .emp 7, .emp 7, .emp 3, .pv (.int .i64 (0)), .pv (.int .i64 (0)), .pv (.int .i64 (0)), .pv (.int .i64 (0)), .pv (.int .i64 (0)), .pv (.int .i64 (0)), .pv (.int .i64 (0)), .emp 7, .pv (.int .i64 (0)), .pv (.int .i64 (0)), .pv (.int .i64 (0)), .pv (.int .i64 (0)), .pv (.int .i64 (0)), .pv (.int .i64 (0)), .pv (.int .i64 (0)), .pv (.int .i64 (0)), .pv (.int .i64 (0)), .pv (.int .i64 (0)), .pv (.int .i64 (0)), .pv (.int .i64 (0)), .pv (.int .i64 (0)), .pv (.int .i64 (0)), .pv (.int .i64 (0)), .pv (.int .i64 (0)), .pv (.int .i64 (0)), .pv (.int .i64 (0)), .pv (.int .i64 (0)), .pv (.int .i64 (0)), .pv (.bool false), .pv (.bool false), .emp 47, .pv (.int .i64 (0)), .pv (.int .i64 (0)), .pv (.int .i64 (0)), .pv (.int .i64 (0)), .pv (.int .i64 (0)), .pv (.int .i64 (0)), .pv (.int .i64 (0)), .pv (.int .i64 (0)), .emp 1, .pv (.int .i64 (0)), .pv (.int .i64 (0)), .emp 2, .pv (.int .i64 (0)), .pv (.bool false), .pv (.int .i64 (0)), .pv (.str []), .pv (.int .i64 (0)), .pv (.int .i64 (0)), .pv (.int .i64 (0)), .pv (.int .i64 (0)), .pv (.int .i64 (0)), .pv (.int .i64 (0)), .pv (.int .i64 (0)), .pv (.int .i64 (0)), .pv (.int .i64 (0)), .pv (.int .i64 (0)), .pv (.int .i64 (0)), .emp 57, .emp 47, .emp 3, .pv (.str []), .pv (.int .i64 (0))], none, 0⟩] false)
 (.seq (.reg [⟨(some 4), .load true 3 (.t 1), none, 0⟩,
 ⟨(some 5), .call (.f n_ref11_Draft_State) [.t 4], none, 1⟩,
 ⟨(some 3), .alloc [.emp 7, .emp 7, .emp 7, .emp 3, .pv (.int .i64 (0)), .pv (.int .i64 (0)), .pv (.int .i64 (0)), .pv (.int .i64 (0)), .pv (.int .i64 (0)), .pv (.int .i64 (0)), .pv (.int .i64 (0)), .emp 7, .pv (.int .i64 (0)), .pv (.int .i64 (0)), .pv (.int .i64 (0)), .pv (.int .i64 (0)), .pv (.int .i64 (0)), .pv (.int .i64 (0)), .pv (.int .i64 (0)), .pv (.int .i64 (0)), .pv (.int .i64 (0)), .pv (.int .i64 (0)), .pv (.int .i64 (0)), .pv (.int .i64 (0)), .pv (.int .i64 (0)), .pv (.int .i64 (0)), .pv (.int .i64 (0)), .pv (.int .i64 (0)), .pv (.int .i64 (0)), .pv (.int .i64 (0)), .pv (.int .i64 (0)), .pv (.int .i64 (0)), .pv (.bool false), .pv (.bool false), .emp 47, .pv (.int .i64 (0)), .pv (.int .i64 (0)), .pv (.int .i64 (0)), .pv (.int .i64 (0)), .pv (.int .i64 (0)), .pv (.int .i64 (0)), .pv (.int .i64 (0)), .pv (.int .i64 (0)), .emp 1, .pv (.int .i64 (0)), .pv (.int .i64 (0)), .emp 2, .pv (.int .i64 (0)), .pv (.bool false), .pv (.int .i64 (0)), .pv (.str []), .pv (.int .i64 (0)), .pv (.int .i64 (0)), .pv (.int .i64 (0)), .pv (.int .i64 (0)), .pv (.int .i64 (0)), .pv (.int .i64 (0)), .pv (.int .i64 (0)), .pv (.int .i64 (0)), .pv (.int .i64 (0)), .pv (.int .i64 (0)), .pv (.int .i64 (0)), .emp 57, .emp 47, .emp 3, .pv (.str []), .pv (.int .i64 (0))], none, 0⟩,
 ⟨none, .store 67 (.t 3) (.t 5), none, 7⟩] false)
 (.seq (.reg [⟨(some 6), .faddr (.t 3) 5, none, 0⟩,
 ⟨(some 7), .faddr (.t 6) 40, none, 1⟩,
 ⟨none, .store 1 (.t 7) (.c (.pv (.int .i64 (1)))), none, 3⟩] false)
 (.seq (.reg [⟨(some 8), .load true 67 (.t 3), none, 0⟩,
 ⟨none, .store 67 (.t 2) (.t 8), none, 1⟩] false)
 (.ret))))⟩
def c_law19_saved : RFn := ⟨1, 5, [.cell 2 true 7],
 .seq (.reg [⟨(some 2), .alloc [.pv (.int .i64 (0)), .pv (.bool false), .pv (.int .i64 (0)), .pv (.str []), .pv (.int .i64 (0)), .pv (.int .i64 (0)), .pv (.int .i64 (0))], none, 0⟩] false)
 (.seq (.reg [⟨(some 3), .mv (.t 0), none, 0⟩,
 ⟨(some 4), .build [.pv (.int .i64 (0)), .pv (.bool false), .pv (.int .i64 (0)), .pv (.str []), .pv (.int .i64 (0)), .pv (.int .i64 (0)), .pv (.int .i64 (0))] [(0, 1, .c (.pv (.int .i64 (12)))), (2, 1, .t 3)], none, 1⟩,
 ⟨none, .store 7 (.t 2) (.t 4), none, 3⟩] false)
 (.ret))⟩
def c_ref11_Word_Obj : RFn := ⟨2, 84, [.cell 4 true 7],
 .seq (.reg [⟨(some 2), .box 5 (.t 0), none, 0⟩,
 ⟨(some 4), .alloc [.pv (.int .i64 (0)), .pv (.bool false), .pv (.int .i64 (0)), .pv (.str []), .pv (.int .i64 (0)), .pv (.int .i64 (0)), .pv (.int .i64 (0))], none, 0⟩] false)
 (.seq (.reg [⟨(some 6), .faddr (.t 2) 3, none, 0⟩,
 ⟨(some 7), .load false 1 (.t 6), none, 1⟩,
 ⟨(some 8), .conv .i64 (.t 7), none, 3⟩,
 ⟨(some 5), .mv (.t 8), none, 7⟩] false)
 (.seq (.seq (.reg [⟨(some 9), .faddr (.t 2) 0, none, 0⟩,
 ⟨(some 10), .load false 1 (.t 9), none, 1⟩,
 ⟨(some 11), .bin .rem (.t 10) (.c (.pv (.int .u8 (16)))), none, 3⟩] false)
 (.block 0
 (.seq (.reg [⟨(some 13), .bin .eql (.t 11) (.c (.pv (.int .u8 (0)))), none, 0⟩,
 ⟨(some 12), .mv (.t 13), none, 1⟩] false)
 (.cond (.t 12)
 (.seq (.reg [⟨(some 14), .build [.pv (.int .i64 (0)), .pv (.bool false), .pv (.int .i64 (0)), .pv (.str []), .pv (.int .i64 (0)), .pv (.int .i64 (0)), .pv (.int .i64 (0))] [(0, 1, .c (.pv (.int .i64 (0))))], none, 0⟩,
 ⟨none, .store 7 (.t 4) (.t 14), none, 1⟩] false)
 (.ret))
 (.seq (.reg [⟨(some 16), .bin .eql (.t 11) (.c (.pv (.int .u8 (1)))), none, 0⟩,
 ⟨(some 15), .mv (.t 16), none, 1⟩] false)
 (.cond (.t 15)
 (.seq (.reg [⟨(some 17), .build [.pv (.int .i64 (0)), .pv (.bool false), .pv (.int .i64 (0)), .pv (.str []), .pv (.int .i64 (0)), .pv (.int .i64 (0)), .pv (.int .i64 (0))] [(0, 1, .c (.pv (.int .i64 (1))))], none, 0⟩,
 ⟨none, .store 7 (.t 4) (.t 17), none, 1⟩] false)
 (.ret))
 (.seq (.reg [⟨(some 19), .bin .eql (.t 11) (.c (.pv (.int .u8 (2)))), none, 0⟩,
 ⟨(some 18), .mv (.t 19), none, 1⟩] false)
 (.cond (.t 18)
 (.seq (.reg [⟨(some 20), .faddr (.t 2) 1, none, 0⟩,
 ⟨(some 21), .load false 1 (.t 20), none, 1⟩,
 ⟨(some 22), .bin .rem (.t 21) (.c (.pv (.int .u8 (2)))), none, 3⟩,
 ⟨(some 23), .conv .i64 (.t 22), none, 7⟩,
 ⟨(some 24), .build [.pv (.int .i64 (0)), .pv (.bool false), .pv (.int .i64 (0)), .pv (.str []), .pv (.int .i64 (0)), .pv (.int .i64 (0)), .pv (.int .i64 (0))] [(0, 1, .c (.pv (.int .i64 (2)))), (2, 1, .t 23)], none, 15⟩,
 ⟨none, .store 7 (.t 4) (.t 24), none, 31⟩] false)
 (.ret))
 (.seq (.seq (.reg [⟨(some 26), .bin .eql (.t 11) (.c (.pv (.int .u8 (3)))), none, 0⟩,
 ⟨(some 25), .mv (.t 26), none, 1⟩] false)
 (.cond (.t 25)
 (.skip)
 (.reg [⟨(some 27), .bin .eql (.t 11) (.c (.pv (.int .u8 (4)))), none, 0⟩,
 ⟨(some 25), .mv (.t 27), none, 1⟩] false)))
 (.cond (.t 25)
 (.seq (.reg [⟨(some 28), .mv (.t 5), none, 0⟩,
 ⟨(some 29), .bin .rem (.t 28) (.c (.pv (.int .i64 (10)))), none, 1⟩,
 ⟨(some 30), .build [.pv (.int .i64 (0)), .pv (.bool false), .pv (.int .i64 (0)), .pv (.str []), .pv (.int .i64 (0)), .pv (.int .i64 (0)), .pv (.int .i64 (0))] [(0, 1, .c (.pv (.int .i64 (3)))), (2, 1, .t 29)], none, 3⟩,
 ⟨none, .store 7 (.t 4) (.t 30), none, 7⟩] false)
 (.ret))
 (.seq (.reg [⟨(some 32), .bin .eql (.t 11) (.c (.pv (.int .u8 (5)))), none, 0⟩,
 ⟨(some 31), .mv (.t 32), none, 1⟩] false)
 (.cond (.t 31)
 (.seq (.reg [⟨(some 33), .mv (.t 5), none, 0⟩,
 ⟨(some 34), .build [.pv (.int .i64 (0)), .pv (.bool false), .pv (.int .i64 (0)), .pv (.str []), .pv (.int .i64 (0)), .pv (.int .i64 (0)), .pv (.int .i64 (0))] [(0, 1, .c (.pv (.int .i64 (3)))), (2, 1, .t 33)], none, 1⟩,
 ⟨none, .store 7 (.t 4) (.t 34), none, 3⟩] false)
 (.ret))
 (.seq (.reg [⟨(some 36), .bin .eql (.t 11) (.c (.pv (.int .u8 (6)))), none, 0⟩,
 ⟨(some 35), .mv (.t 36), none, 1⟩] false)
 (.cond (.t 35)
 (.seq (.reg [⟨(some 37), .mv (.t 5), none, 0⟩,
 ⟨(some 38), .bin .rem (.t 37) (.c (.pv (.int .i64 (1048576)))), none, 1⟩,
 ⟨(some 39), .build [.pv (.int .i64 (0)), .pv (.bool false), .pv (.int .i64 (0)), .pv (.str []), .pv (.int .i64 (0)), .pv (.int .i64 (0)), .pv (.int .i64 (0))] [(0, 1, .c (.pv (.int .i64 (4)))), (2, 1, .t 38)], none, 3⟩,
 ⟨none, .store 7 (.t 4) (.t 39), none, 7⟩] false)
 (.ret))
 (.seq (.reg [⟨(some 41), .bin .eql (.t 11) (.c (.pv (.int .u8 (7)))), none, 0⟩,
 ⟨(some 40), .mv (.t 41), none, 1⟩] false)
 (.cond (.t 40)
 (.seq (.reg [⟨(some 42), .mv (.t 5), none, 0⟩,
 ⟨(some 43), .build [.pv (.int .i64 (0)), .pv (.bool false), .pv (.int .i64 (0)), .pv (.str []), .pv (.int .i64 (0)), .pv (.int .i64 (0)), .pv (.int .i64 (0))] [(0, 1, .c (.pv (.int .i64 (4)))), (2, 1, .t 42)], none, 1⟩,
 ⟨none, .store 7 (.t 4) (.t 43), none, 3⟩] false)
 (.ret))
 (.seq (.seq (.reg [⟨(some 45), .bin .eql (.t 11) (.c (.pv (.int .u8 (8)))), none, 0⟩,
 ⟨(some 44), .mv (.t 45), none, 1⟩] false)
 (.cond (.t 44)
 (.skip)
 (.reg [⟨(some 46), .bin .eql (.t 11) (.c (.pv (.int .u8 (9)))), none, 0⟩,
 ⟨(some 44), .mv (.t 46), none, 1⟩] false)))
 (.cond (.t 44)
 (.seq (.reg [⟨(some 47), .faddr (.t 2) 0, none, 0⟩,
 ⟨(some 48), .load false 1 (.t 47), none, 1⟩,
 ⟨(some 49), .bin .rem (.t 48) (.c (.pv (.int .u8 (16)))), none, 3⟩,
 ⟨(some 50), .bin .eql (.t 49) (.c (.pv (.int .u8 (9)))), none, 7⟩,
 ⟨(some 51), .faddr (.t 2) 1, none, 0⟩,
 ⟨(some 52), .load false 1 (.t 51), none, 16⟩,
 ⟨(some 53), .conv .i64 (.t 52), none, 48⟩,
 ⟨(some 54), .bin .rem (.t 53) (.c (.pv (.int .i64 (8)))), none, 112⟩,
 ⟨(some 55), .paddr 8 1 (.g 0) (.t 54), none, 240⟩,
 ⟨(some 56), .load false 1 (.t 55), none, 496⟩,
 ⟨(some 57), .build [.pv (.int .i64 (0)), .pv (.bool false), .pv (.int .i64 (0)), .pv (.str []), .pv (.int .i64 (0)), .pv (.int .i64 (0)), .pv (.int .i64 (0))] [(0, 1, .c (.pv (.int .i64 (5)))), (1, 1, .t 50), (3, 1, .t 56)], none, 1023⟩,
 ⟨none, .store 7 (.t 4) (.t 57), none, 2047⟩] true)
 (.ret))
 (.seq (.reg [⟨(some 59), .bin .eql (.t 11) (.c (.pv (.int .u8 (10)))), none, 0⟩,
 ⟨(some 58), .mv (.t 59), none, 1⟩] false)
 (.cond (.t 58)
 (.seq (.reg [⟨(some 60), .mv (.t 1), none, 0⟩,
 ⟨(some 61), .load true 5 (.t 2), none, 0⟩,
 ⟨(some 62), .call (.f n_ref11_part) [.t 60, .c (.pv (.int .i64 (6))), .c (.pv (.int .i64 (1))), .t 61], none, 3⟩,
 ⟨none, .store 7 (.t 4) (.t 62), none, 7⟩] false)
 (.ret))
 (.seq (.reg [⟨(some 64), .bin .eql (.t 11) (.c (.pv (.int .u8 (11)))), none, 0⟩,
 ⟨(some 63), .mv (.t 64), none, 1⟩] false)
 (.cond (.t 63)
 (.seq (.reg [⟨(some 65), .mv (.t 1), none, 0⟩,
 ⟨(some 66), .load true 5 (.t 2), none, 0⟩,
 ⟨(some 67), .call (.f n_ref11_part) [.t 65, .c (.pv (.int .i64 (7))), .c (.pv (.int .i64 (2))), .t 66], none, 3⟩,
 ⟨none, .store 7 (.t 4) (.t 67), none, 7⟩] false)
 (.ret))
 (.seq (.reg [⟨(some 69), .bin .eql (.t 11) (.c (.pv (.int .u8 (12)))), none, 0⟩,
 ⟨(some 68), .mv (.t 69), none, 1⟩] false)
 (.cond (.t 68)
 (.seq (.reg [⟨(some 70), .mv (.t 1), none, 0⟩,
 ⟨(some 71), .load true 5 (.t 2), none, 0⟩,
 ⟨(some 72), .call (.f n_ref11_part) [.t 70, .c (.pv (.int .i64 (8))), .c (.pv (.int .i64 (2))), .t 71], none, 3⟩,
 ⟨none, .store 7 (.t 4) (.t 72), none, 7⟩] false)
 (.ret))
 (.seq (.reg [⟨(some 74), .bin .eql (.t 11) (.c (.pv (.int .u8 (13)))), none, 0⟩,
 ⟨(some 73), .mv (.t 74), none, 1⟩] false)
 (.cond (.t 73)
 (.seq (.reg [⟨(some 75), .mv (.t 1), none, 0⟩,
 ⟨(some 76), .load true 5 (.t 2), none, 0⟩,
 ⟨(some 77), .call (.f n_ref11_part) [.t 75, .c (.pv (.int .i64 (9))), .c (.pv (.int .i64 (3))), .t 76], none, 3⟩,
 ⟨none, .store 7 (.t 4) (.t 77), none, 7⟩] false)
 (.ret))
 (.seq (.reg [⟨(some 79), .bin .eql (.t 11) (.c (.pv (.int .u8 (14)))), none, 0⟩,
 ⟨(some 78), .mv (.t 79), none, 1⟩] false)
 (.cond (.t 78)
 (.seq (.reg [⟨(some 80), .build [.pv (.int .i64 (0)), .pv (.bool false), .pv (.int .i64 (0)), .pv (.str []), .pv (.int .i64 (0)), .pv (.int .i64 (0)), .pv (.int .i64 (0))] [(0, 1, .c (.pv (.int .i64 (10)))), (1, 1, .c (.pv (.bool true))), (3, 1, .c (.pv (.str [97, 100, 100])))], none, 0⟩,
 ⟨none, .store 7 (.t 4) (.t 80), none, 1⟩] false)
 (.ret))
 (.skip)))))))))))))))))))))))))))))
 (.seq (.reg [⟨(some 81), .mv (.t 1), none, 0⟩,
 ⟨(some 82), .load true 5 (.t 2), none, 0⟩,
 ⟨(some 83), .call (.f n_ref11_part) [.t 81, .c (.pv (.int .i64 (11))), .c (.pv (.int .i64 (4))), .t 82], none, 3⟩,
 ⟨none, .store 7 (.t 4) (.t 83), none, 7⟩] false)
 (.ret))))⟩
def c_law19_with : RFn := ⟨2, 12, [.cell 4 true 67],
 .seq (.reg [⟨(some 2), .box 67 (.t 0), none, 0⟩,
 ⟨(some 4), .alloc [.emp 7, .emp 7, .emp 7, .emp 3, .pv (.int .i64 (0)), .pv (.int .i64 (0)), .pv (.int .i64 (0)), .pv (.int .i64 (0)), .pv (.int .i64 (0)), .pv (.int .i64 (0)), .pv (.int .i64 (0)), .emp 7, .pv (.int .i64 (0)), .pv (.int .i64 (0)), .pv (.int .i64 (0)), .pv (.int .i64 (0)), .pv (.int .i64 (0)), .pv (.int .i64 (0)), .pv (.int .i64 (0)), .pv (.int .i64 (0)), .pv (.int .i64 (0)), .pv (.int .i64 (0)), .pv (.int .i64 (0)), .pv (.int .i64 (0)), .pv (.int .i64 (0)), .pv (.int .i64 (0)), .pv (.int .i64 (0)), .pv (.int .i64 (0)), .pv (.int .i64 (0)), .pv (.int .i64 (0)), .pv (.int .i64 (0)), .pv (.int .i64 (0)), .pv (.bool false), .pv (.bool false), .emp 47, .pv (.int .i64 (0)), .pv (.int .i64 (0)), .pv (.int .i64 (0)), .pv (.int .i64 (0)), .pv (.int .i64 (0)), .pv (.int .i64 (0)), .pv (.int .i64 (0)), .pv (.int .i64 (0)), .emp 1, .pv (.int .i64 (0)), .pv (.int .i64 (0)), .emp 2, .pv (.int .i64 (0)), .pv (.bool false), .pv (.int .i64 (0)), .pv (.str []), .pv (.int .i64 (0)), .pv (.int .i64 (0)), .pv (.int .i64 (0)), .pv (.int .i64 (0)), .pv (.int .i64 (0)), .pv (.int .i64 (0)), .pv (.int .i64 (0)), .pv (.int .i64 (0)), .pv (.int .i64 (0)), .pv (.int .i64 (0)), .pv (.int .i64 (0)), .emp 57, .emp 47, .emp 3, .pv (.str []), .pv (.int .i64 (0))], none, 0⟩] false)
 (.seq (.reg [⟨(some 5), .faddr (.t 2) 0, none, 0⟩,
 ⟨(some 6), .load false 1 (.t 5), none, 1⟩,
 ⟨(some 7), .call (.f n_slices_Clone_Obj) [.t 6], none, 3⟩,
 ⟨(some 8), .mv (.t 1), none, 0⟩,
 ⟨(some 9), .append 7 64 (.t 7) (.t 8), none, 15⟩,
 ⟨(some 10), .faddr (.t 2) 0, none, 31⟩,
 ⟨none, .store 1 (.t 10) (.t 9), none, 63⟩] false)
 (.seq (.reg [⟨(some 11), .load true 67 (.t 2), none, 0⟩,
 ⟨none, .store 67 (.t 4) (.t 11), none, 1⟩] false)
 (.ret)))⟩
def c_save_Do : RFn := ⟨2, 26, [.cell 4 true 67, .tmp 5],
 .seq (.reg [⟨(some 2), .box 67 (.t 0), none, 0⟩,
 ⟨(some 4), .alloc [.emp 7, .emp 7, .emp 7, .emp 3, .pv (.int .i64 (0)), .pv (.int .i64 (0)), .pv (.int .i64 (0)), .pv (.int .i64 (0)), .pv (.int .i64 (0)), .pv (.int .i64 (0)), .pv (.int .i64 (0)), .emp 7, .pv (.int .i64 (0)), .pv (.int .i64 (0)), .pv (.int .i64 (0)), .pv (.int .i64 (0)), .pv (.int .i64 (0)), .pv (.int .i64 (0)), .pv (.int .i64 (0)), .pv (.int .i64 (0)), .pv (.int .i64 (0)), .pv (.int .i64 (0)), .pv (.int .i64 (0)), .pv (.int .i64 (0)), .pv (.int .i64 (0)), .pv (.int .i64 (0)), .pv (.int .i64 (0)), .pv (.int .i64 (0)), .pv (.int .i64 (0)), .pv (.int .i64 (0)), .pv (.int .i64 (0)), .pv (.int .i64 (0)), .pv (.bool false), .pv (.bool false), .emp 47, .pv (.int .i64 (0)), .pv (.int .i64 (0)), .pv (.int .i64 (0)), .pv (.int .i64 (0)), .pv (.int .i64 (0)), .pv (.int .i64 (0)), .pv (.int .i64 (0)), .pv (.int .i64 (0)), .emp 1, .pv (.int .i64 (0)), .pv (.int .i64 (0)), .emp 2, .pv (.int .i64 (0)), .pv (.bool false), .pv (.int .i64 (0)), .pv (.str []), .pv (.int .i64 (0)), .pv (.int .i64 (0)), .pv (.int .i64 (0)), .pv (.int .i64 (0)), .pv (.int .i64 (0)), .pv (.int .i64 (0)), .pv (.int .i64 (0)), .pv (.int .i64 (0)), .pv (.int .i64 (0)), .pv (.int .i64 (0)), .pv (.int .i64 (0)), .emp 57, .emp 47, .emp 3, .pv (.str []), .pv (.int .i64 (0))], none, 0⟩,
 ⟨(some 5), .mv (.c (.pv (.int .i64 (0)))), none, 0⟩] false)
 (.seq (.reg [⟨(some 9), .mkmap, none, 0⟩,
 ⟨none, .insert (.t 9) (.c (.pv (.str [115, 97, 118, 101]))) (.f n_save_keeper_save), none, 1⟩,
 ⟨none, .insert (.t 9) (.c (.pv (.str [114, 101, 115, 116, 111, 114, 101]))) (.f n_save_keeper_restore), none, 1⟩,
 ⟨none, .insert (.t 9) (.c (.pv (.str [118, 109, 115, 116, 97, 116, 117, 115]))) (.f n_save_keeper_vmstatus), none, 1⟩,
 ⟨(some 10), .mv (.t 9), none, 15⟩,
 ⟨(some 6), .mv (.t 10), none, 31⟩] false)
 (.seq (.reg [⟨(some 12), .mv (.t 6), none, 0⟩,
 ⟨(some 13), .mv (.t 1), none, 0⟩,
 ⟨(some 14), .lookup (.t 12) (.t 13) (.pv .nilFunc), none, 3⟩,
 ⟨(some 11), .mv (.t 14), none, 7⟩,
 ⟨(some 15), .extract (.t 11) 0, none, 15⟩,
 ⟨(some 16), .extract (.t 11) 1, none, 15⟩,
 ⟨(some 7), .mv (.t 15), none, 31⟩,
 ⟨(some 8), .mv (.t 16), none, 127⟩] false)
 (.seq (.seq (.reg [⟨(some 17), .mv (.t 8), none, 0⟩,
 ⟨(some 18), .not (.t 17), none, 1⟩] false)
 (.cond (.t 18)
 (.seq (.reg [⟨(some 19), .load true 67 (.t 2), none, 0⟩,
 ⟨none, .store 67 (.t 4) (.t 19), none, 1⟩,
 ⟨(some 5), .mv (.c (.pv (.int .i64 (24)))), none, 3⟩] false)
 (.ret))
 (.skip)))
 (.seq (.reg [⟨(some 20), .mv (.t 7), none, 0⟩,
 ⟨(some 21), .load true 67 (.t 2), none, 0⟩,
 ⟨(some 22), .build [.emp 7, .emp 7, .emp 7, .emp 3, .pv (.int .i64 (0)), .pv (.int .i64 (0)), .pv (.int .i64 (0)), .pv (.int .i64 (0)), .pv (.int .i64 (0)), .pv (.int .i64 (0)), .pv (.int .i64 (0)), .emp 7, .pv (.int .i64 (0)), .pv (.int .i64 (0)), .pv (.int .i64 (0)), .pv (.int .i64 (0)), .pv (.int .i64 (0)), .pv (.int .i64 (0)), .pv (.int .i64 (0)), .pv (.int .i64 (0)), .pv (.int .i64 (0)), .pv (.int .i64 (0)), .pv (.int .i64 (0)), .pv (.int .i64 (0)), .pv (.int .i64 (0)), .pv (.int .i64 (0)), .pv (.int .i64 (0)), .pv (.int .i64 (0)), .pv (.int .i64 (0)), .pv (.int .i64 (0)), .pv (.int .i64 (0)), .pv (.int .i64 (0)), .pv (.bool false), .pv (.bool false), .emp 47, .pv (.int .i64 (0)), .pv (.int .i64 (0)), .pv (.int .i64 (0)), .pv (.int .i64 (0)), .pv (.int .i64 (0)), .pv (.int .i64 (0)), .pv (.int .i64 (0)), .pv (.int .i64 (0)), .emp 1, .pv (.int .i64 (0)), .pv (.int .i64 (0)), .emp 2, .pv (.int .i64 (0)), .pv (.bool false), .pv (.int .i64 (0)), .pv (.str []), .pv (.int .i64 (0)), .pv (.int .i64 (0)), .pv (.int .i64 (0)), .pv (.int .i64 (0)), .pv (.int .i64 (0)), .pv (.int .i64 (0)), .pv (.int .i64 (0)), .pv (.int .i64 (0)), .pv (.int .i64 (0)), .pv (.int .i64 (0)), .pv (.int .i64 (0)), .emp 57, .emp 47, .emp 3, .pv (.str []), .pv (.int .i64 (0))] [(0, 67, .t 21)], none, 2⟩,
 ⟨(some 23), .call (.t 20) [.t 22], none, 7⟩,
 ⟨(some 24), .extract (.t 23) 0, none, 15⟩,
 ⟨(some 25), .extract (.t 23) 1, none, 15⟩,
 ⟨none, .store 67 (.t 4) (.t 24), none, 63⟩,
 ⟨(some 5), .mv (.t 25), none, 127⟩] false)
 (.ret)))))⟩
def c_ref11_SameState : RFn := ⟨2, 149, [.tmp 4],
 .seq (.reg [⟨(some 2), .box 67 (.t 0), none, 0⟩,
 ⟨(some 3), .box 67 (.t 1), none, 0⟩,
 ⟨(some 4), .mv (.c (.pv (.bool false))), none, 0⟩] false)
 (.seq (.seq (.reg [⟨(some 9), .faddr (.t 2) 0, none, 0⟩,
 ⟨(some 10), .load false 1 (.t 9), none, 1⟩,
 ⟨(some 11), .faddr (.t 3) 0, none, 0⟩,
 ⟨(some 12), .load false 1 (.t 11), none, 4⟩,
 ⟨(some 13), .call (.f n_ref11_sameObjs) [.t 10, .t 12], none, 15⟩,
 ⟨(some 14), .not (.t 13), none, 31⟩,
 ⟨(some 15), .mv (.t 14), none, 63⟩,
 ⟨(some 16), .faddr (.t 2) 1, (some (15, false)), 127⟩,
 ⟨(some 17), .load false 1 (.t 16), (some (15, false)), 255⟩,
 ⟨(some 18), .faddr (.t 3) 1, (some (15, false)), 127⟩,
 ⟨(some 19), .load false 1 (.t 18), (some (15, false)), 639⟩,
 ⟨(some 20), .call (.f n_ref11_sameObjs) [.t 17, .t 19], (some (15, false)), 2047⟩,
 ⟨(some 21), .not (.t 20), (some (15, false)), 4095⟩,
 ⟨(some 22), .pick (.t 15) (.c (.pv (.bool true))) (.t 21), none, 8191⟩,
 ⟨(some 23), .mv (.t 22), none, 16383⟩,
 ⟨(some 24), .faddr (.t 2) 2, (some (23, false)), 32767⟩,
 ⟨(some 25), .load false 1 (.t 24), (some (23, false)), 65535⟩,
 ⟨(some 26), .faddr (.t 3) 2, (some (23, false)), 32767⟩,
 ⟨(some 27), .load false 1 (.t 26), (some (23, false)), 163839⟩,
 ⟨(some 28), .call (.f n_ref11_Same) [.t 25, .t 27], (some (23, false)), 524287⟩,
 ⟨(some 29), .not (.t 28), (some (23, false)), 1048575⟩,
 ⟨(some 30), .pick (.t 23) (.c (.pv (.bool true))) (.t 29), none, 2097151⟩,
 ⟨(some 31), .mv (.t 30), none, 4194303⟩,
 ⟨(some 32), .faddr (.t 2) 3, (some (31, false)), 8388607⟩,
 ⟨(some 33), .load false 1 (.t 32), (some (31, false)), 16777215⟩,
 ⟨(some 34), .slen (.t 33), (some (31, false)), 33554431⟩,
 ⟨(some 35), .faddr (.t 3) 3, (some (31, false)), 8388607⟩,
 ⟨(some 36), .load false 1 (.t 35), (some (31, false)), 75497471⟩,
 ⟨(some 37), .slen (.t 36), (some (31, false)), 209715199⟩,
 ⟨(some 38), .bin .neq (.t 34) (.t 37), (some (31, false)), 536870911⟩,
 ⟨(some 39), .pick (.t 31) (.c (.pv (.bool true))) (.t 38), none, 1073741823⟩,
 ⟨(some 40), .mv (.t 39), none, 2147483647⟩,
 ⟨(some 41), .faddr (.t 2) 4, (some (40, false)), 4294967295⟩,
 ⟨(some 42), .load false 1 (.t 41), (some (40, false)), 8589934591⟩,
 ⟨(some 43), .faddr (.t 3) 4, (some (40, false)), 4294967295⟩,
 ⟨(some 44), .load false 1 (.t 43), (some (40, false)), 21474836479⟩,
 ⟨(some 45), .bin .neq (.t 42) (.t 44), (some (40, false)), 68719476735⟩,
 ⟨(some 46), .pick (.t 40) (.c (.pv (.bool true))) (.t 45), none, 137438953471⟩,
 ⟨(some 47), .mv (.t 46), none, 274877906943⟩,
 ⟨(some 48), .faddr (.t 2) 62, (some (47, false)), 549755813887⟩,
 ⟨(some 49), .load false 1 (.t 48), (some (47, false)), 1099511627775⟩,
 ⟨(some 50), .slen (.t 49), (some (47, false)), 2199023255551⟩,
 ⟨(some 51), .faddr (.t 3) 62, (some (47, false)), 549755813887⟩,
 ⟨(some 52), .load false 1 (.t 51), (some (47, false)), 4947802324991⟩,
 ⟨(some 53), .slen (.t 52), (some (47, false)), 13743895347199⟩,
 ⟨(some 54), .bin .neq (.t 50) (.t 53), (some (47, false)), 35184372088831⟩,
 ⟨(some 55), .pick (.t 47) (.c (.pv (.bool true))) (.t 54), none, 70368744177663⟩,
 ⟨(some 56), .mv (.t 55), none, 140737488355327⟩,
 ⟨(some 57), .faddr (.t 2) 65, (some (56, false)), 281474976710655⟩,
 ⟨(some 58), .load false 1 (.t 57), (some (56, false)), 562949953421311⟩,
 ⟨(some 59), .faddr (.t 3) 65, (some (56, false)), 281474976710655⟩,
 ⟨(some 60), .load false 1 (.t 59), (some (56, false)), 1407374883553279⟩,
 ⟨(some 61), .bin .neq (.t 58) (.t 60), (some (56, false)), 4503599627370495⟩,
 ⟨(some 62), .pick (.t 56) (.c (.pv (.bool true))) (.t 61), none, 9007199254740991⟩,
 ⟨(some 63), .mv (.t 62), none, 18014398509481983⟩,
 ⟨(some 64), .faddr (.t 2) 66, (some (63, false)), 36028797018963967⟩,
 ⟨(some 65), .load false 1 (.t 64), (some (63, false)), 72057594037927935⟩,
 ⟨(some 66), .faddr (.t 3) 66, (some (63, false)), 36028797018963967⟩,
 ⟨(some 67), .load false 1 (.t 66), (some (63, false)), 180143985094819839⟩,
 ⟨(some 68), .bin .neq (.t 65) (.t 67), (some (63, false)), 576460752303423487⟩,
 ⟨(some 69), .pick (.t 63) (.c (.pv (.bool true))) (.t 68), none, 1152921504606846975⟩] false)
 (.cond (.t 69)
 (.seq (.reg [⟨(some 4), .mv (.c (.pv (.bool false))), none, 0⟩] false)
 (.ret))
 (.skip)))
 (.seq (.seq (.reg [⟨(some 5), .mv (.c (.pv (.int .i64 (0)))), none, 0⟩] false)
 (.block 0
 (.loop [2, 3, 5]
 (.seq (.seq (.reg [⟨(some 70), .mv (.t 5), none, 0⟩,
 ⟨(some 71), .faddr (.t 2) 3, none, 0⟩,
 ⟨(some 72), .load false 1 (.t 71), none, 2⟩,
 ⟨(some 73), .slen (.t 72), none, 6⟩,
 ⟨(some 74), .bin .lss (.t 70) (.t 73), none, 15⟩] false)
 (.cond (.t 74)
 (.skip)
 (.exit 0)))
 (.seq (.block 1
 (.seq (.reg [⟨(some 77), .faddr (.t 2) 3, none, 0⟩,
 ⟨(some 78), .load false 1 (.t 77), none, 1⟩,
 ⟨(some 79), .mv (.t 5), none, 0⟩,
 ⟨(some 80), .iaddr 3 (.t 78) (.t 79), none, 7⟩,
 ⟨(some 81), .load true 3 (.t 80), none, 15⟩,
 ⟨(some 82), .faddr (.t 3) 3, none, 0⟩,
 ⟨(some 83), .load false 1 (.t 82), none, 32⟩,
 ⟨(some 84), .mv (.t 5), none, 0⟩,
 ⟨(some 85), .iaddr 3 (.t 83) (.t 84), none, 224⟩,
 ⟨(some 86), .load true 3 (.t 85), none, 480⟩,
 ⟨(some 6), .alloc [.pv (.int .i64 (0)), .emp 7, .pv (.int .i64 (0))], none, 0⟩,
 ⟨(some 7), .alloc [.pv (.int .i64 (0)), .emp 7, .pv (.int .i64 (0))], none, 0⟩,
 ⟨none, .store 3 (.t 6) (.t 81), none, 3103⟩,
 ⟨none, .store 3 (.t 7) (.t 86), none, 8191⟩] true)
 (.seq (.reg [⟨(some 87), .faddr (.t 6) 0, none, 0⟩,
 ⟨(some 88), .load false 1 (.t 87), none, 1⟩,
 ⟨(some 89), .faddr (.t 7) 0, none, 0⟩,
 ⟨(some 90), .load false 1 (.t 89), none, 4⟩,
 ⟨(some 91), .bin .neq (.t 88) (.t 90), none, 15⟩,
 ⟨(some 92), .mv (.t 91), none, 31⟩,
 ⟨(some 93), .faddr (.t 6) 2, (some (92, false)), 63⟩,
 ⟨(some 94), .load false 1 (.t 93), (some (92, false)), 127⟩,
 ⟨(some 95), .faddr (.t 7) 2, (some (92, false)), 63⟩,
 ⟨(some 96), .load false 1 (.t 95), (some (92, false)), 319⟩,
 ⟨(some 97), .bin .neq (.t 94) (.t 96), (some (92, false)), 1023⟩,
 ⟨(some 98), .pick (.t 92) (.c (.pv (.bool true))) (.t 97), none, 2047⟩,
 ⟨(some 99), .mv (.t 98), none, 4095⟩,
 ⟨(some 100), .faddr (.t 6) 1, (some (99, false)), 8191⟩,
 ⟨(some 101), .load false 1 (.t 100), (some (99, false)), 16383⟩,
 ⟨(some 102), .faddr (.t 7) 1, (some (99, false)), 8191⟩,
 ⟨(some 103), .load false 1 (.t 102), (some (99, false)), 40959⟩,
 ⟨(some 104), .call (.f n_ref11_Same) [.t 101, .t 103], (some (99, false)), 131071⟩,
 ⟨(some 105), .not (.t 104), (some (99, false)), 262143⟩,
 ⟨(some 106), .pick (.t 99) (.c (.pv (.bool true))) (.t 105), none, 524287⟩] false)
 (.cond (.t 106)
 (.seq (.reg [⟨(some 4), .mv (.c (.pv (.bool false))), none, 0⟩] false)
 (.ret))
 (.skip)))))
 (.reg [⟨(some 75), .mv (.t 5), none, 0⟩,
 ⟨(some 76), .bin .add (.t 75) (.c (.pv (.int .i64 (1)))), none, 1⟩,
 ⟨(some 5), .mv (.t 76), none, 3⟩] false))))))
 (.seq (.seq (.reg [⟨(some 8), .mv (.c (.pv (.int .i64 (0)))), none, 0⟩] false)
 (.block 2
 (.loop [2, 3, 8]
 (.seq (.seq (.reg [⟨(some 107), .mv (.t 8), none, 0⟩,
 ⟨(some 108), .faddr (.t 2) 62, none, 0⟩,
 ⟨(some 109), .load false 1 (.t 108), none, 2⟩,
 ⟨(some 110), .slen (.t 109), none, 6⟩,
 ⟨(some 111), .bin .lss (.t 107) (.t 110), none, 15⟩] false)
 (.cond (.t 111)
 (.skip)
 (.exit 2)))
 (.seq (.block 3
 (.seq (.reg [⟨(some 114), .faddr (.t 2) 62, none, 0⟩,
 ⟨(some 115), .load false 1 (.t 114), none, 1⟩,
 ⟨(some 116), .mv (.t 8), none, 0⟩,
 ⟨(some 117), .iaddr 57 (.t 115) (.t 116), none, 7⟩,
 ⟨(some 118), .load true 57 (.t 117), none, 15⟩,
 ⟨(some 119), .faddr (.t 3) 62, none, 0⟩,
 ⟨(some 120), .load false 1 (.t 119), none, 32⟩,
 ⟨(some 121), .mv (.t 8), none, 0⟩,
 ⟨(some 122), .iaddr 57 (.t 120) (.t 121), none, 224⟩,
 ⟨(some 123), .load true 57 (.t 122), none, 480⟩,
 ⟨(some 124), .call (.f n_ref11_SameG) [.t 118, .t 123], none, 1023⟩,
 ⟨(some 125), .not (.t 124), none, 2047⟩] true)
 (.cond (.t 125)
 (.seq (.reg [⟨(some 4), .mv (.c (.pv (.bool false))), none, 0⟩] false)
 (.ret))
 (.skip))))
 (.reg [⟨(some 112), .mv (.t 8), none, 0⟩,
 ⟨(some 113), .bin .add (.t 112) (.c (.pv (.int .i64 (1)))), none, 1⟩,
 ⟨(some 8), .mv (.t 113), none, 3⟩] false))))))
 (.seq (.reg [⟨(some 126), .faddr (.t 2) 5, none, 0⟩,
 ⟨(some 127), .load true 57 (.t 126), none, 1⟩,
 ⟨(some 128), .faddr (.t 3) 5, none, 0⟩,
 ⟨(some 129), .load true 57 (.t 128), none, 4⟩,
 ⟨(some 130), .call (.f n_ref11_SameG) [.t 127, .t 129], none, 15⟩,
 ⟨(some 131), .mv (.t 130), none, 31⟩,
 ⟨(some 132), .faddr (.t 2) 63, (some (131, true)), 63⟩,
 ⟨(some 133), .load false 1 (.t 132), (some (131, true)), 127⟩,
 ⟨(some 134), .slen (.t 133), (some (131, true)), 255⟩,
 ⟨(some 135), .faddr (.t 3) 63, (some (131, true)), 63⟩,
 ⟨(some 136), .load false 1 (.t 135), (some (131, true)), 575⟩,
 ⟨(some 137), .slen (.t 136), (some (131, true)), 1599⟩,
 ⟨(some 138), .bin .eql (.t 134) (.t 137), (some (131, true)), 4095⟩,
 ⟨(some 139), .pick (.t 131) (.t 138) (.c (.pv (.bool false))), none, 8191⟩,
 ⟨(some 140), .mv (.t 139), none, 16383⟩,
 ⟨(some 141), .faddr (.t 2) 64, (some (140, true)), 32767⟩,
 ⟨(some 142), .load false 1 (.t 141), (some (140, true)), 65535⟩,
 ⟨(some 143), .slen (.t 142), (some (140, true)), 131071⟩,
 ⟨(some 144), .faddr (.t 3) 64, (some (140, true)), 32767⟩,
 ⟨(some 145), .load false 1 (.t 144), (some (140, true)), 294911⟩,
 ⟨(some 146), .slen (.t 145), (some (140, true)), 819199⟩,
 ⟨(some 147), .bin .eql (.t 143) (.t 146), (some (140, true)), 2097151⟩,
 ⟨(some 148), .pick (.t 140) (.t 147) (.c (.pv (.bool false))), none, 4194303⟩,
 ⟨(some 4), .mv (.t 148), none, 8388607⟩] false)
 (.ret)))))⟩
def c_save_Cells : RFn := ⟨2, 23, [.tmp 4, .tmp 5],
 .seq (.reg [⟨(some 2), .box 67 (.t 0), none, 0⟩,
 ⟨(some 4), .mv (.c (.pv (.int .i64 (0)))), none, 0⟩,
 ⟨(some 5), .mv (.c (.pv (.bool false))), none, 2⟩] false)
 (.seq (.reg [⟨(some 8), .load true 67 (.t 2), none, 0⟩,
 ⟨(some 9), .build [.emp 7, .emp 7, .emp 7, .emp 3, .pv (.int .i64 (0)), .pv (.int .i64 (0)), .pv (.int .i64 (0)), .pv (.int .i64 (0)), .pv (.int .i64 (0)), .pv (.int .i64 (0)), .pv (.int .i64 (0)), .emp 7, .pv (.int .i64 (0)), .pv (.int .i64 (0)), .pv (.int .i64 (0)), .pv (.int .i64 (0)), .pv (.int .i64 (0)), .pv (.int .i64 (0)), .pv (.int .i64 (0)), .pv (.int .i64 (0)), .pv (.int .i64 (0)), .pv (.int .i64 (0)), .pv (.int .i64 (0)), .pv (.int .i64 (0)), .pv (.int .i64 (0)), .pv (.int .i64 (0)), .pv (.int .i64 (0)), .pv (.int .i64 (0)), .pv (.int .i64 (0)), .pv (.int .i64 (0)), .pv (.int .i64 (0)), .pv (.int .i64 (0)), .pv (.bool false), .pv (.bool false), .emp 47, .pv (.int .i64 (0)), .pv (.int .i64 (0)), .pv (.int .i64 (0)), .pv (.int .i64 (0)), .pv (.int .i64 (0)), .pv (.int .i64 (0)), .pv (.int .i64 (0)), .pv (.int .i64 (0)), .emp 1, .pv (.int .i64 (0)), .pv (.int .i64 (0)), .emp 2, .pv (.int .i64 (0)), .pv (.bool false), .pv (.int .i64 (0)), .pv (.str []), .pv (.int .i64 (0)), .pv (.int .i64 (0)), .pv (.int .i64 (0)), .pv (.int .i64 (0)), .pv (.int .i64 (0)), .pv (.int .i64 (0)), .pv (.int .i64 (0)), .pv (.int .i64 (0)), .pv (.int .i64 (0)), .pv (.int .i64 (0)), .pv (.int .i64 (0)), .emp 57, .emp 47, .emp 3, .pv (.str []), .pv (.int .i64 (0))] [(0, 67, .t 8)], none, 1⟩,
 ⟨(some 6), .alloc [.emp 7, .emp 7, .emp 7, .emp 3, .pv (.int .i64 (0)), .pv (.int .i64 (0)), .pv (.int .i64 (0)), .pv (.int .i64 (0)), .pv (.int .i64 (0)), .pv (.int .i64 (0)), .pv (.int .i64 (0)), .emp 7, .pv (.int .i64 (0)), .pv (.int .i64 (0)), .pv (.int .i64 (0)), .pv (.int .i64 (0)), .pv (.int .i64 (0)), .pv (.int .i64 (0)), .pv (.int .i64 (0)), .pv (.int .i64 (0)), .pv (.int .i64 (0)), .pv (.int .i64 (0)), .pv (.int .i64 (0)), .pv (.int .i64 (0)), .pv (.int .i64 (0)), .pv (.int .i64 (0)), .pv (.int .i64 (0)), .pv (.int .i64 (0)), .pv (.int .i64 (0)), .pv (.int .i64 (0)), .pv (.int .i64 (0)), .pv (.int .i64 (0)), .pv (.bool false), .pv (.bool false), .emp 47, .pv (.int .i64 (0)), .pv (.int .i64 (0)), .pv (.int .i64 (0)), .pv (.int .i64 (0)), .pv (.int .i64 (0)), .pv (.int .i64 (0)), .pv (.int .i64 (0)), .pv (.int .i64 (0)), .emp 1, .pv (.int .i64 (0)), .pv (.int .i64 (0)), .emp 2, .pv (.int .i64 (0)), .pv (.bool false), .pv (.int .i64 (0)), .pv (.str []), .pv (.int .i64 (0)), .pv (.int .i64 (0)), .pv (.int .i64 (0)), .pv (.int .i64 (0)), .pv (.int .i64 (0)), .pv (.int .i64 (0)), .pv (.int .i64 (0)), .pv (.int .i64 (0)), .pv (.int .i64 (0)), .pv (.int .i64 (0)), .pv (.int .i64 (0)), .emp 57, .emp 47, .emp 3, .pv (.str []), .pv (.int .i64 (0))], none, 0⟩,
 ⟨none, .store 67 (.t 6) (.t 9), none, 7⟩] false)
 (.seq (.reg [⟨(some 10), .load true 67 (.t 6), none, 0⟩,
 ⟨(some 11), .mv (.t 1), none, 0⟩,
 ⟨(some 12), .call (.f n_save_keeper_find) [.t 10, .t 11], none, 3⟩,
 ⟨(some 7), .mv (.t 12), none, 7⟩] false)
 (.seq (.seq (.reg [⟨(some 13), .mv (.t 7), none, 0⟩,
 ⟨(some 14), .bin .lss (.t 13) (.c (.pv (.int .i64 (0)))), none, 1⟩] false)
 (.cond (.t 14)
 (.seq (.reg [⟨(some 4), .mv (.c (.pv (.int .i64 (0)))), none, 0⟩,
 ⟨(some 5), .mv (.c (.pv (.bool false))), none, 1⟩] false)
 (.ret))
 (.skip)))
 (.seq (.reg [⟨(some 15), .faddr (.t 6) 0, none, 0⟩,
 ⟨(some 16), .faddr (.t 15) 3, none, 1⟩,
 ⟨(some 17), .load false 1 (.t 16), none, 3⟩,
 ⟨(some 18), .mv (.t 7), none, 0⟩,
 ⟨(some 19), .iaddr 3 (.t 17) (.t 18), none, 15⟩,
 ⟨(some 20), .faddr (.t 19) 1, none, 31⟩,
 ⟨(some 21), .load false 1 (.t 20), none, 63⟩,
 ⟨(some 22), .slen (.t 21), none, 127⟩,
 ⟨(some 4), .mv (.t 22), none, 255⟩,
 ⟨(some 5), .mv (.c (.pv (.bool true))), none, 511⟩] false)
 (.ret)))))⟩
def c_heap_Total : RFn := ⟨1, 18, [.tmp 2],
 .seq (.reg [⟨(some 2), .mv (.c (.pv (.int .i64 (0)))), none, 0⟩] false)
 (.seq (.reg [⟨(some 3), .mv (.c (.pv (.int .i64 (0)))), none, 0⟩] false)
 (.seq (.seq (.reg [⟨(some 6), .mv (.t 0), none, 0⟩,
 ⟨(some 7), .slen (.t 6), none, 1⟩,
 ⟨(some 8), .mv (.c (.pv (.int .i64 (0)))), none, 0⟩] false)
 (.block 0
 (.loop [3, 6, 7, 8]
 (.seq (.reg [⟨(some 9), .bin .lss (.t 8) (.t 7), none, 0⟩] false)
 (.seq (.cond (.t 9)
 (.skip)
 (.exit 0))
 (.seq (.block 1
 (.seq (.reg [⟨(some 10), .iaddr 7 (.t 6) (.t 8), none, 0⟩,
 ⟨(some 11), .load true 7 (.t 10), none, 1⟩,
 ⟨(some 5), .alloc [.pv (.int .i64 (0)), .pv (.str []), .emp 7, .emp 7, .emp 7, .pv (.int .i64 (0)), .pv (.int .i64 (0))], none, 0⟩,
 ⟨none, .store 7 (.t 5) (.t 11), none, 7⟩] false)
 (.reg [⟨(some 12), .mv (.t 3), none, 0⟩,
 ⟨(some 13), .load true 7 (.t 5), none, 0⟩,
 ⟨(some 14), .call (.f n_heap_Size) [.t 13], none, 2⟩,
 ⟨(some 15), .bin .add (.t 12) (.t 14), none, 7⟩,
 ⟨(some 3), .mv (.t 15), none, 15⟩] false)))
 (.reg [⟨(some 16), .bin .add (.t 8) (.c (.pv (.int .i64 (1)))), none, 0⟩,
 ⟨(some 8), .mv (.t 16), none, 1⟩] false)))))))
 (.seq (.reg [⟨(some 17), .mv (.t 3), none, 0⟩,
 ⟨(some 2), .mv (.t 17), none, 1⟩] false)
 (.ret))))⟩
def c_heap_Size : RFn := ⟨1, 20, [.tmp 2],
 .seq (.reg [⟨(some 1), .box 7 (.t 0), none, 0⟩,
 ⟨(some 2), .mv (.c (.pv (.int .i64 (0)))), none, 0⟩] false)
 (.seq (.seq (.reg [⟨(some 3), .faddr (.t 1) 0, none, 0⟩,
 ⟨(some 4), .load false 1 (.t 3), none, 1⟩,
 ⟨(some 5), .bin .eql (.t 4) (.c (.pv (.int .i64 (3)))), none, 3⟩] false)
 (.cond (.t 5)
 (.seq (.reg [⟨(some 6), .faddr (.t 1) 5, none, 0⟩,
 ⟨(some 7), .load false 1 (.t 6), none, 1⟩,
 ⟨(some 8), .mm false [.t 7, .c (.pv (.int .i64 (200)))], none, 3⟩,
 ⟨(some 9), .mm true [.c (.pv (.int .i64 (0))), .t 8], none, 7⟩,
 ⟨(some 10), .bin .mul (.c (.pv (.int .i64 (2)))) (.t 9), none, 15⟩,
 ⟨(some 11), .bin .add (.c (.pv (.int .i64 (1)))) (.t 10), none, 31⟩,
 ⟨(some 2), .mv (.t 11), none, 63⟩] false)
 (.ret))
 (.skip)))
 (.seq (.reg [⟨(some 12), .faddr (.t 1) 1, none, 0⟩,
 ⟨(some 13), .load false 1 (.t 12), none, 1⟩,
 ⟨(some 14), .strlen (.t 13), none, 3⟩,
 ⟨(some 15), .bin .add (.c (.pv (.int .i64 (1)))) (.t 14), none, 7⟩,
 ⟨(some 16), .faddr (.t 1) 2, none, 0⟩,
 ⟨(some 17), .load false 1 (.t 16), none, 16⟩,
 ⟨(some 18), .slen (.t 17), none, 48⟩,
 ⟨(some 19), .bin .add (.t 15) (.t 18), none, 127⟩,
 ⟨(some 2), .mv (.t 19), none, 255⟩] false)
 (.ret)))⟩
def c_heap_Fits : RFn := ⟨2, 51, [.tmp 4],
 .seq (.reg [⟨(some 3), .box 7 (.t 1), none, 0⟩,
 ⟨(some 4), .mv (.c (.pv (.bool false))), none, 0⟩] false)
 (.seq (.seq (.reg [⟨(some 6), .load true 7 (.t 3), none, 0⟩,
 ⟨(some 7), .call (.f n_object_Check) [.t 6], none, 1⟩,
 ⟨(some 8), .bin .neq (.t 7) (.c (.pv (.int .i64 (0)))), none, 3⟩] false)
 (.cond (.t 8)
 (.seq (.reg [⟨(some 4), .mv (.c (.pv (.bool false))), none, 0⟩] false)
 (.ret))
 (.skip)))
 (.seq (.reg [⟨(some 9), .faddr (.t 3) 0, none, 0⟩,
 ⟨(some 10), .load false 1 (.t 9), none, 1⟩,
 ⟨(some 11), .call (.f n_heap_cellKind) [.t 10], none, 3⟩,
 ⟨(some 5), .mv (.t 11), none, 7⟩] false)
 (.seq (.seq (.reg [⟨(some 12), .mv (.t 5), none, 0⟩,
 ⟨(some 13), .bin .eql (.t 12) (.c (.pv (.int .i64 (0)))), none, 1⟩] false)
 (.cond (.t 13)
 (.seq (.reg [⟨(some 4), .mv (.c (.pv (.bool true))), none, 0⟩] false)
 (.ret))
 (.skip)))
 (.seq (.seq (.reg [⟨(some 14), .faddr (.t 3) 4, none, 0⟩,
 ⟨(some 15), .load false 1 (.t 14), none, 1⟩,
 ⟨(some 16), .mv (.t 0), none, 0⟩,
 ⟨(some 17), .slen (.t 16), none, 4⟩,
 ⟨(some 18), .bin .geq (.t 15) (.t 17), none, 15⟩,
 ⟨(some 19), .mv (.t 18), none, 31⟩,
 ⟨(some 20), .mv (.t 0), (some (19, false)), 63⟩,
 ⟨(some 21), .faddr (.t 3) 4, (some (19, false)), 63⟩,
 ⟨(some 22), .load false 1 (.t 21), (some (19, false)), 191⟩,
 ⟨(some 23), .iaddr 7 (.t 20) (.t 22), (some (19, false)), 511⟩,
 ⟨(some 24), .faddr (.t 23) 0, (some (19, false)), 1023⟩,
 ⟨(some 25), .load false 1 (.t 24), (some (19, false)), 2047⟩,
 ⟨(some 26), .mv (.t 5), (some (19, false)), 63⟩,
 ⟨(some 27), .bin .neq (.t 25) (.t 26), (some (19, false)), 8191⟩,
 ⟨(some 28), .pick (.t 19) (.c (.pv (.bool true))) (.t 27), none, 16383⟩] false)
 (.cond (.t 28)
 (.seq (.reg [⟨(some 4), .mv (.c (.pv (.bool false))), none, 0⟩] false)
 (.ret))
 (.skip)))
 (.seq (.reg [⟨(some 29), .faddr (.t 3) 0, none, 0⟩,
 ⟨(some 30), .load false 1 (.t 29), none, 1⟩,
 ⟨(some 31), .bin .eql (.t 30) (.c (.pv (.int .i64 (9)))), none, 3⟩,
 ⟨(some 32), .mv (.t 31), none, 7⟩,
 ⟨(some 33), .faddr (.t 3) 0, (some (32, false)), 15⟩,
 ⟨(some 34), .load false 1 (.t 33), (some (32, false)), 31⟩,
 ⟨(some 35), .bin .eql (.t 34) (.c (.pv (.int .i64 (11)))), (some (32, false)), 63⟩,
 ⟨(some 36), .pick (.t 32) (.c (.pv (.bool true))) (.t 35), none, 127⟩,
 ⟨(some 37), .mv (.t 36), none, 255⟩,
 ⟨(some 38), .faddr (.t 3) 5, (some (37, false)), 511⟩,
 ⟨(some 39), .load false 1 (.t 38), (some (37, false)), 1023⟩,
 ⟨(some 40), .faddr (.t 3) 6, (some (37, false)), 511⟩,
 ⟨(some 41), .load false 1 (.t 40), (some (37, false)), 2559⟩,
 ⟨(some 42), .bin .add (.t 39) (.t 41), (some (37, false)), 8191⟩,
 ⟨(some 43), .mv (.t 0), (some (37, false)), 511⟩,
 ⟨(some 44), .faddr (.t 3) 4, (some (37, false)), 511⟩,
 ⟨(some 45), .load false 1 (.t 44), (some (37, false)), 33279⟩,
 ⟨(some 46), .iaddr 7 (.t 43) (.t 45), (some (37, false)), 115199⟩,
 ⟨(some 47), .load true 7 (.t 46), (some (37, false)), 246271⟩,
 ⟨(some 48), .call (.f n_heap_length) [.t 47], (some (37, false)), 508415⟩,
 ⟨(some 49), .bin .leq (.t 42) (.t 48), (some (37, false)), 1048575⟩,
 ⟨(some 50), .pick (.t 37) (.c (.pv (.bool true))) (.t 49), none, 2097151⟩,
 ⟨(some 4), .mv (.t 50), none, 4194303⟩] true)
 (.ret))))))⟩
def c_ref11_Same : RFn := ⟨2, 27, [.tmp 4],
 .seq (.reg [⟨(some 4), .mv (.c (.pv (.bool false))), none, 0⟩] false)
 (.seq (.seq (.reg [⟨(some 6), .mv (.t 0), none, 0⟩,
 ⟨(some 7), .slen (.t 6), none, 1⟩,
 ⟨(some 8), .mv (.t 1), none, 0⟩,
 ⟨(some 9), .slen (.t 8), none, 4⟩,
 ⟨(some 10), .bin .neq (.t 7) (.t 9), none, 15⟩] false)
 (.cond (.t 10)
 (.seq (.reg [⟨(some 4), .mv (.c (.pv (.bool false))), none, 0⟩] false)
 (.ret))
 (.skip)))
 (.seq (.seq (.reg [⟨(some 5), .mv (.c (.pv (.int .i64 (0)))), none, 0⟩] false)
 (.block 0
 (.loop [0, 1, 5]
 (.seq (.seq (.reg [⟨(some 11), .mv (.t 5), none, 0⟩,
 ⟨(some 12), .mv (.t 0), none, 0⟩,
 ⟨(some 13), .slen (.t 12), none, 2⟩,
 ⟨(some 14), .bin .lss (.t 11) (.t 13), none, 7⟩] false)
 (.cond (.t 14)
 (.skip)
 (.exit 0)))
 (.seq (.block 1
 (.seq (.reg [⟨(some 17), .mv (.t 0), none, 0⟩,
 ⟨(some 18), .mv (.t 5), none, 0⟩,
 ⟨(some 19), .iaddr 7 (.t 17) (.t 18), none, 3⟩,
 ⟨(some 20), .load true 7 (.t 19), none, 7⟩,
 ⟨(some 21), .mv (.t 1), none, 0⟩,
 ⟨(some 22), .mv (.t 5), none, 0⟩,
 ⟨(some 23), .iaddr 7 (.t 21) (.t 22), none, 48⟩,
 ⟨(some 24), .load true 7 (.t 23), none, 112⟩,
 ⟨(some 25), .call (.f n_ref11_SameCell) [.t 20, .t 24], none, 255⟩,
 ⟨(some 26), .not (.t 25), none, 511⟩] true)
 (.cond (.t 26)
 (.seq (.reg [⟨(some 4), .mv (.c (.pv (.bool false))), none, 0⟩] false)
 (.ret))
 (.skip))))
 (.reg [⟨(some 15), .mv (.t 5), none, 0⟩,
 ⟨(some 16), .bin .add (.t 15) (.c (.pv (.int .i64 (1)))), none, 1⟩,
 ⟨(some 5), .mv (.t 16), none, 3⟩] false))))))
 (.seq (.reg [⟨(some 4), .mv (.c (.pv (.bool true))), none, 0⟩] false)
 (.ret))))⟩
def c_ref11_Draft_Heap : RFn := ⟨1, 29, [.tmp 2],
 .seq (.reg [⟨(some 1), .box 3 (.t 0), none, 0⟩,
 ⟨(some 2), .mv (.c (.emp 7)), none, 0⟩] false)
 (.seq (.reg [⟨(some 5), .bsl 1 2 [.pv (.str [])] [(0, .c (.pv (.str [97, 100, 100]))), (1, .c (.pv (.str [112, 111, 112])))], none, 0⟩,
 ⟨(some 6), .call (.f n_ref11_First) [.t 5], none, 1⟩,
 ⟨(some 3), .mv (.t 6), none, 3⟩] false)
 (.seq (.seq (.reg [⟨(some 4), .mv (.c (.pv (.int .i64 (0)))), none, 0⟩] false)
 (.block 0
 (.loop [1, 3, 4]
 (.seq (.seq (.reg [⟨(some 7), .mv (.t 4), none, 0⟩,
 ⟨(some 8), .faddr (.t 1) 0, none, 0⟩,
 ⟨(some 9), .load false 1 (.t 8), none, 2⟩,
 ⟨(some 10), .slen (.t 9), none, 6⟩,
 ⟨(some 11), .bin .lss (.t 7) (.t 10), none, 15⟩,
 ⟨(some 12), .mv (.t 11), none, 31⟩,
 ⟨(some 13), .mv (.t 4), (some (12, true)), 63⟩,
 ⟨(some 14), .bin .lss (.t 13) (.c (.pv (.int .i64 (10)))), (some (12, true)), 127⟩,
 ⟨(some 15), .pick (.t 12) (.t 14) (.c (.pv (.bool false))), none, 255⟩] false)
 (.cond (.t 15)
 (.skip)
 (.exit 0)))
 (.seq (.block 1
 (.reg [⟨(some 18), .mv (.t 3), none, 0⟩,
 ⟨(some 19), .faddr (.t 1) 0, none, 0⟩,
 ⟨(some 20), .load false 1 (.t 19), none, 2⟩,
 ⟨(some 21), .mv (.t 4), none, 0⟩,
 ⟨(some 22), .iaddr 5 (.t 20) (.t 21), none, 14⟩,
 ⟨(some 23), .load true 5 (.t 22), none, 30⟩,
 ⟨(some 24), .mv (.t 3), none, 0⟩,
 ⟨(some 25), .call (.f n_ref11_Word_Cell) [.t 23, .t 24], none, 126⟩,
 ⟨(some 26), .bsl 7 1 [.pv (.int .i64 (0)), .pv (.str []), .emp 7, .emp 7, .emp 7, .pv (.int .i64 (0)), .pv (.int .i64 (0))] [(0, .t 25)], none, 254⟩,
 ⟨(some 27), .append 7 112 (.t 18) (.t 26), none, 511⟩,
 ⟨(some 3), .mv (.t 27), none, 1023⟩] false))
 (.reg [⟨(some 16), .mv (.t 4), none, 0⟩,
 ⟨(some 17), .bin .add (.t 16) (.c (.pv (.int .i64 (1)))), none, 1⟩,
 ⟨(some 4), .mv (.t 17), none, 3⟩] false))))))
 (.seq (.reg [⟨(some 28), .mv (.t 3), none, 0⟩,
 ⟨(some 2), .mv (.t 28), none, 1⟩] false)
 (.ret))))⟩
def c_ref11_SameCell : RFn := ⟨2, 52, [.tmp 4],
 .seq (.reg [⟨(some 2), .box 7 (.t 0), none, 0⟩,
 ⟨(some 3), .box 7 (.t 1), none, 0⟩,
 ⟨(some 4), .mv (.c (.pv (.bool false))), none, 0⟩] false)
 (.seq (.reg [⟨(some 5), .faddr (.t 2) 0, none, 0⟩,
 ⟨(some 6), .load false 1 (.t 5), none, 1⟩,
 ⟨(some 7), .faddr (.t 3) 0, none, 0⟩,
 ⟨(some 8), .load false 1 (.t 7), none, 4⟩,
 ⟨(some 9), .bin .eql (.t 6) (.t 8), none, 15⟩,
 ⟨(some 10), .mv (.t 9), none, 31⟩,
 ⟨(some 11), .faddr (.t 2) 1, (some (10, true)), 63⟩,
 ⟨(some 12), .load false 1 (.t 11), (some (10, true)), 127⟩,
 ⟨(some 13), .faddr (.t 3) 1, (some (10, true)), 63⟩,
 ⟨(some 14), .load false 1 (.t 13), (some (10, true)), 319⟩,
 ⟨(some 15), .bin .eql (.t 12) (.t 14), (some (10, true)), 1023⟩,
 ⟨(some 16), .pick (.t 10) (.t 15) (.c (.pv (.bool false))), none, 2047⟩,
 ⟨(some 17), .mv (.t 16), none, 4095⟩,
 ⟨(some 18), .faddr (.t 2) 2, (some (17, true)), 8191⟩,
 ⟨(some 19), .load false 1 (.t 18), (some (17, true)), 16383⟩,
 ⟨(some 20), .faddr (.t 3) 2, (some (17, true)), 8191⟩,
 ⟨(some 21), .load false 1 (.t 20), (some (17, true)), 40959⟩,
 ⟨(some 22), .call (.f n_ref11_sameObjs) [.t 19, .t 21], (some (17, true)), 131071⟩,
 ⟨(some 23), .pick (.t 17) (.t 22) (.c (.pv (.bool false))), none, 262143⟩,
 ⟨(some 24), .mv (.t 23), none, 524287⟩,
 ⟨(some 25), .faddr (.t 2) 3, (some (24, true)), 1048575⟩,
 ⟨(some 26), .load false 1 (.t 25), (some (24, true)), 2097151⟩,
 ⟨(some 27), .faddr (.t 3) 3, (some (24, true)), 1048575⟩,
 ⟨(some 28), .load false 1 (.t 27), (some (24, true)), 5242879⟩,
 ⟨(some 29), .call (.f n_ref11_sameObjs) [.t 26, .t 28], (some (24, true)), 16777215⟩,
 ⟨(some 30), .pick (.t 24) (.t 29) (.c (.pv (.bool false))), none, 33554431⟩,
 ⟨(some 31), .mv (.t 30), none, 67108863⟩,
 ⟨(some 32), .faddr (.t 2) 4, (some (31, true)), 134217727⟩,
 ⟨(some 33), .load false 1 (.t 32), (some (31, true)), 268435455⟩,
 ⟨(some 34), .faddr (.t 3) 4, (some (31, true)), 134217727⟩,
 ⟨(some 35), .load false 1 (.t 34), (some (31, true)), 671088639⟩,
 ⟨(some 36), .call (.f n_ref11_sameObjs) [.t 33, .t 35], (some (31, true)), 2147483647⟩,
 ⟨(some 37), .pick (.t 31) (.t 36) (.c (.pv (.bool false))), none, 4294967295⟩,
 ⟨(some 38), .mv (.t 37), none, 8589934591⟩,
 ⟨(some 39), .faddr (.t 2) 5, (some (38, true)), 17179869183⟩,
 ⟨(some 40), .load false 1 (.t 39), (some (38, true)), 34359738367⟩,
 ⟨(some 41), .faddr (.t 3) 5, (some (38, true)), 17179869183⟩,
 ⟨(some 42), .load false 1 (.t 41), (some (38, true)), 85899345919⟩,
 ⟨(some 43), .bin .eql (.t 40) (.t 42), (some (38, true)), 274877906943⟩,
 ⟨(some 44), .pick (.t 38) (.t 43) (.c (.pv (.bool false))), none, 549755813887⟩,
 ⟨(some 45), .mv (.t 44), none, 1099511627775⟩,
 ⟨(some 46), .faddr (.t 2) 6, (some (45, true)), 2199023255551⟩,
 ⟨(some 47), .load false 1 (.t 46), (some (45, true)), 4398046511103⟩,
 ⟨(some 48), .faddr (.t 3) 6, (some (45, true)), 2199023255551⟩,
 ⟨(some 49), .load false 1 (.t 48), (some (45, true)), 10995116277759⟩,
 ⟨(some 50), .bin .eql (.t 47) (.t 49), (some (45, true)), 35184372088831⟩,
 ⟨(some 51), .pick (.t 45) (.t 50) (.c (.pv (.bool false))), none, 70368744177663⟩,
 ⟨(some 4), .mv (.t 51), none, 140737488355327⟩] false)
 (.ret))⟩
def c_ref11_Word_Cell : RFn := ⟨2, 139, [.cell 4 true 7],
 .seq (.reg [⟨(some 2), .box 5 (.t 0), none, 0⟩,
 ⟨(some 4), .alloc [.pv (.int .i64 (0)), .pv (.str []), .emp 7, .emp 7, .emp 7, .pv (.int .i64 (0)), .pv (.int .i64 (0))], none, 0⟩] false)
 (.seq (.reg [⟨(some 12), .faddr (.t 2) 4, none, 0⟩,
 ⟨(some 13), .load false 1 (.t 12), none, 1⟩,
 ⟨(some 14), .faddr (.t 2) 4, none, 0⟩,
 ⟨(some 15), .load false 1 (.t 14), none, 4⟩,
 ⟨(some 16), .strlen (.t 15), none, 12⟩,
 ⟨(some 17), .mm false [.t 16, .c (.pv (.int .i64 (40)))], none, 28⟩,
 ⟨(some 18), .sslice (.t 13) none (some (.t 17)), none, 63⟩,
 ⟨(some 5), .mv (.t 18), none, 127⟩] false)
 (.seq (.seq (.reg [⟨(some 19), .faddr (.t 2) 0, none, 0⟩,
 ⟨(some 20), .load false 1 (.t 19), none, 1⟩,
 ⟨(some 21), .bin .rem (.t 20) (.c (.pv (.int .u8 (5)))), none, 3⟩] false)
 (.block 0
 (.seq (.seq (.reg [⟨(some 23), .bin .eql (.t 21) (.c (.pv (.int .u8 (0)))), none, 0⟩,
 ⟨(some 22), .mv (.t 23), none, 1⟩] false)
 (.cond (.t 22)
 (.skip)
 (.reg [⟨(some 24), .bin .eql (.t 21) (.c (.pv (.int .u8 (1)))), none, 0⟩,
 ⟨(some 22), .mv (.t 24), none, 1⟩] false)))
 (.cond (.t 22)
 (.seq (.reg [⟨(some 25), .mv (.t 5), none, 0⟩,
 ⟨(some 26), .build [.pv (.int .i64 (0)), .pv (.str []), .emp 7, .emp 7, .emp 7, .pv (.int .i64 (0)), .pv (.int .i64 (0))] [(0, 1, .c (.pv (.int .i64 (1)))), (1, 1, .t 25)], none, 1⟩,
 ⟨none, .store 7 (.t 4) (.t 26), none, 3⟩] false)
 (.ret))
 (.seq (.reg [⟨(some 28), .bin .eql (.t 21) (.c (.pv (.int .u8 (2)))), none, 0⟩,
 ⟨(some 27), .mv (.t 28), none, 1⟩] false)
 (.cond (.t 27)
 (.seq (.reg [⟨(some 29), .build [.pv (.int .i64 (0)), .pv (.str []), .emp 7, .emp 7, .emp 7, .pv (.int .i64 (0)), .pv (.int .i64 (0))] [(0, 1, .c (.pv (.int .i64 (2))))], none, 0⟩,
 ⟨(some 6), .alloc [.pv (.int .i64 (0)), .pv (.str []), .emp 7, .emp 7, .emp 7, .pv (.int .i64 (0)), .pv (.int .i64 (0))], none, 0⟩,
 ⟨none, .store 7 (.t 6) (.t 29), none, 3⟩] false)
 (.seq (.seq (.reg [⟨(some 7), .mv (.c (.pv (.int .i64 (0)))), none, 0⟩] false)
 (.block 1
 (.loop [1, 2, 4, 6, 7]
 (.seq (.seq (.reg [⟨(some 30), .mv (.t 7), none, 0⟩,
 ⟨(some 31), .faddr (.t 2) 1, none, 0⟩,
 ⟨(some 32), .load false 1 (.t 31), none, 2⟩,
 ⟨(some 33), .bin .rem (.t 32) (.c (.pv (.int .u8 (6)))), none, 6⟩,
 ⟨(some 34), .conv .i64 (.t 33), none, 14⟩,
 ⟨(some 35), .bin .lss (.t 30) (.t 34), none, 31⟩] false)
 (.cond (.t 35)
 (.skip)
 (.exit 1)))
 (.seq (.block 2
 (.seq (.reg [⟨(some 38), .faddr (.t 2) 2, none, 0⟩,
 ⟨(some 39), .load false 1 (.t 38), none, 1⟩,
 ⟨(some 40), .mv (.t 7), none, 0⟩,
 ⟨(some 41), .bin .mul (.c (.pv (.int .i64 (5)))) (.t 40), none, 4⟩,
 ⟨(some 42), .conv .u8 (.t 41), none, 12⟩,
 ⟨(some 43), .bin .add (.t 39) (.t 42), none, 31⟩,
 ⟨(some 44), .faddr (.t 2) 1, none, 0⟩,
 ⟨(some 45), .load false 1 (.t 44), none, 64⟩,
 ⟨(some 46), .mv (.t 7), none, 0⟩,
 ⟨(some 47), .conv .u8 (.t 46), none, 256⟩,
 ⟨(some 48), .bin .add (.t 45) (.t 47), none, 960⟩,
 ⟨(some 49), .faddr (.t 2) 2, none, 0⟩,
 ⟨(some 50), .load false 1 (.t 49), none, 2048⟩,
 ⟨(some 51), .mv (.t 7), none, 0⟩,
 ⟨(some 52), .bin .add (.t 51) (.c (.pv (.int .i64 (1)))), none, 8192⟩,
 ⟨(some 53), .conv .u8 (.t 52), none, 24576⟩,
 ⟨(some 54), .bin .mul (.t 50) (.t 53), none, 63488⟩,
 ⟨(some 55), .faddr (.t 2) 3, none, 0⟩,
 ⟨(some 56), .load false 1 (.t 55), none, 131072⟩,
 ⟨(some 57), .mv (.t 7), none, 0⟩,
 ⟨(some 58), .bin .add (.t 57) (.c (.pv (.int .i64 (1)))), none, 524288⟩,
 ⟨(some 59), .conv .i32 (.t 58), none, 1572864⟩,
 ⟨(some 60), .bin .quo (.t 56) (.t 59), none, 4063232⟩,
 ⟨(some 61), .build [.pv (.int .u8 (0)), .pv (.int .u8 (0)), .pv (.int .u8 (0)), .pv (.int .i32 (0)), .pv (.str [])] [(0, 1, .t 43), (1, 1, .t 48), (2, 1, .t 54), (3, 1, .t 60)], none, 8388607⟩,
 ⟨(some 8), .alloc [.pv (.int .u8 (0)), .pv (.int .u8 (0)), .pv (.int .u8 (0)), .pv (.int .i32 (0)), .pv (.str [])], none, 0⟩,
 ⟨none, .store 5 (.t 8) (.t 61), none, 33554431⟩] true)
 (.reg [⟨(some 62), .faddr (.t 6) 2, none, 0⟩,
 ⟨(some 63), .load false 1 (.t 62), none, 1⟩,
 ⟨(some 64), .load true 5 (.t 8), none, 0⟩,
 ⟨(some 65), .mv (.t 1), none, 0⟩,
 ⟨(some 66), .call (.f n_ref11_Word_Obj) [.t 64, .t 65], none, 12⟩,
 ⟨(some 67), .bsl 7 1 [.pv (.int .i64 (0)), .pv (.bool false), .pv (.int .i64 (0)), .pv (.str []), .pv (.int .i64 (0)), .pv (.int .i64 (0)), .pv (.int .i64 (0))] [(0, .t 66)], none, 28⟩,
 ⟨(some 68), .append 7 64 (.t 63) (.t 67), none, 63⟩,
 ⟨(some 69), .faddr (.t 6) 2, none, 127⟩,
 ⟨none, .store 1 (.t 69) (.t 68), none, 255⟩] true)))
 (.reg [⟨(some 36), .mv (.t 7), none, 0⟩,
 ⟨(some 37), .bin .add (.t 36) (.c (.pv (.int .i64 (1)))), none, 1⟩,
 ⟨(some 7), .mv (.t 37), none, 3⟩] false))))))
 (.seq (.reg [⟨(some 70), .load true 7 (.t 6), none, 0⟩,
 ⟨none, .store 7 (.t 4) (.t 70), none, 1⟩] false)
 (.ret))))
 (.seq (.reg [⟨(some 72), .bin .eql (.t 21) (.c (.pv (.int .u8 (3)))), none, 0⟩,
 ⟨(some 71), .mv (.t 72), none, 1⟩] false)
 (.cond (.t 71)
 (.seq (.reg [⟨(some 73), .faddr (.t 2) 1, none, 0⟩,
 ⟨(some 74), .load false 1 (.t 73), none, 1⟩,
 ⟨(some 75), .bin .rem (.t 74) (.c (.pv (.int .u8 (6)))), none, 3⟩,
 ⟨(some 76), .conv .i64 (.t 75), none, 7⟩,
 ⟨(some 77), .call (.f n_ref11_dict) [.t 76], none, 15⟩,
 ⟨(some 9), .alloc [.pv (.int .i64 (0)), .pv (.str []), .emp 7, .emp 7, .emp 7, .pv (.int .i64 (0)), .pv (.int .i64 (0))], none, 0⟩,
 ⟨none, .store 7 (.t 9) (.t 77), none, 63⟩] false)
 (.seq (.seq (.reg [⟨(some 10), .mv (.c (.pv (.int .i64 (0)))), none, 0⟩] false)
 (.block 3
 (.loop [1, 2, 4, 9, 10]
 (.seq (.seq (.reg [⟨(some 78), .mv (.t 10), none, 0⟩,
 ⟨(some 79), .faddr (.t 2) 2, none, 0⟩,
 ⟨(some 80), .load false 1 (.t 79), none, 2⟩,
 ⟨(some 81), .bin .rem (.t 80) (.c (.pv (.int .u8 (4)))), none, 6⟩,
 ⟨(some 82), .conv .i64 (.t 81), none, 14⟩,
 ⟨(some 83), .bin .lss (.t 78) (.t 82), none, 31⟩,
 ⟨(some 84), .mv (.t 83), none, 63⟩,
 ⟨(some 85), .mv (.t 10), (some (84, true)), 127⟩,
 ⟨(some 86), .faddr (.t 9) 5, (some (84, true)), 127⟩,
 ⟨(some 87), .load false 1 (.t 86), (some (84, true)), 383⟩,
 ⟨(some 88), .bin .lss (.t 85) (.t 87), (some (84, true)), 1023⟩,
 ⟨(some 89), .pick (.t 84) (.t 88) (.c (.pv (.bool false))), none, 2047⟩] false)
 (.cond (.t 89)
 (.skip)
 (.exit 3)))
 (.seq (.block 4
 (.seq (.reg [⟨(some 92), .faddr (.t 2) 2, none, 0⟩,
 ⟨(some 93), .load false 1 (.t 92), none, 1⟩,
 ⟨(some 94), .mv (.t 10), none, 0⟩,
 ⟨(some 95), .bin .mul (.c (.pv (.int .i64 (3)))) (.t 94), none, 4⟩,
 ⟨(some 96), .conv .u8 (.t 95), none, 12⟩,
 ⟨(some 97), .bin .add (.t 93) (.t 96), none, 31⟩,
 ⟨(some 98), .faddr (.t 2) 1, none, 0⟩,
 ⟨(some 99), .load false 1 (.t 98), none, 64⟩,
 ⟨(some 100), .mv (.t 10), none, 0⟩,
 ⟨(some 101), .conv .u8 (.t 100), none, 256⟩,
 ⟨(some 102), .bin .add (.t 99) (.t 101), none, 960⟩,
 ⟨(some 103), .faddr (.t 2) 2, none, 0⟩,
 ⟨(some 104), .load false 1 (.t 103), none, 2048⟩,
 ⟨(some 105), .faddr (.t 2) 3, none, 0⟩,
 ⟨(some 106), .load false 1 (.t 105), none, 8192⟩,
 ⟨(some 107), .build [.pv (.int .u8 (0)), .pv (.int .u8 (0)), .pv (.int .u8 (0)), .pv (.int .i32 (0)), .pv (.str [])] [(0, 1, .t 97), (1, 1, .t 102), (2, 1, .t 104), (3, 1, .t 106)], none, 32767⟩,
 ⟨(some 11), .alloc [.pv (.int .u8 (0)), .pv (.int .u8 (0)), .pv (.int .u8 (0)), .pv (.int .i32 (0)), .pv (.str [])], none, 0⟩,
 ⟨none, .store 5 (.t 11) (.t 107), none, 131071⟩] false)
 (.seq (.reg [⟨(some 108), .faddr (.t 9) 3, none, 0⟩,
 ⟨(some 109), .load false 1 (.t 108), none, 1⟩,
 ⟨(some 110), .mv (.t 10), none, 0⟩,
 ⟨(some 111), .paddr 8 1 (.g 0) (.t 110), none, 4⟩,
 ⟨(some 112), .load false 1 (.t 111), none, 12⟩,
 ⟨(some 113), .call (.f n_ref11_name) [.t 112], none, 28⟩,
 ⟨(some 114), .bsl 7 1 [.pv (.int .i64 (0)), .pv (.bool false), .pv (.int .i64 (0)), .pv (.str []), .pv (.int .i64 (0)), .pv (.int .i64 (0)), .pv (.int .i64 (0))] [(0, .t 113)], none, 60⟩,
 ⟨(some 115), .append 7 64 (.t 109) (.t 114), none, 127⟩,
 ⟨(some 116), .faddr (.t 9) 3, none, 255⟩,
 ⟨none, .store 1 (.t 116) (.t 115), none, 511⟩] true)
 (.reg [⟨(some 117), .faddr (.t 9) 4, none, 0⟩,
 ⟨(some 118), .load false 1 (.t 117), none, 1⟩,
 ⟨(some 119), .load true 5 (.t 11), none, 0⟩,
 ⟨(some 120), .mv (.t 1), none, 0⟩,
 ⟨(some 121), .call (.f n_ref11_Word_Obj) [.t 119, .t 120], none, 12⟩,
 ⟨(some 122), .bsl 7 1 [.pv (.int .i64 (0)), .pv (.bool false), .pv (.int .i64 (0)), .pv (.str []), .pv (.int .i64 (0)), .pv (.int .i64 (0)), .pv (.int .i64 (0))] [(0, .t 121)], none, 28⟩,
 ⟨(some 123), .append 7 64 (.t 118) (.t 122), none, 63⟩,
 ⟨(some 124), .faddr (.t 9) 4, none, 127⟩,
 ⟨none, .store 1 (.t 124) (.t 123), none, 255⟩] true))))
 (.reg [⟨(some 90), .mv (.t 10), none, 0⟩,
 ⟨(some 91), .bin .add (.t 90) (.c (.pv (.int .i64 (1)))), none, 1⟩,
 ⟨(some 10), .mv (.t 91), none, 3⟩] false))))))
 (.seq (.reg [⟨(some 125), .load true 7 (.t 9), none, 0⟩,
 ⟨none, .store 7 (.t 4) (.t 125), none, 1⟩] false)
 (.ret))))
 (.skip)))))))))
 (.seq (.reg [⟨(some 126), .mv (.t 5), none, 0⟩,
 ⟨(some 127), .faddr (.t 2) 1, none, 0⟩,
 ⟨(some 128), .load false 1 (.t 127), none, 2⟩,
 ⟨(some 129), .conv .i64 (.t 128), none, 6⟩,
 ⟨(some 130), .mv (.t 5), none, 0⟩,
 ⟨(some 131), .strlen (.t 130), none, 16⟩,
 ⟨(some 132), .bin .add (.t 131) (.c (.pv (.int .i64 (1)))), none, 48⟩,
 ⟨(some 133), .bin .rem (.t 129) (.t 132), none, 126⟩,
 ⟨(some 134), .faddr (.t 2) 2, none, 0⟩,
 ⟨(some 135), .load false 1 (.t 134), none, 256⟩,
 ⟨(some 136), .bin .rem (.t 135) (.c (.pv (.int .u8 (2)))), none, 768⟩,
 ⟨(some 137), .conv .i64 (.t 136), none, 1792⟩,
 ⟨(some 138), .build [.pv (.int .i64 (0)), .pv (.str []), .emp 7, .emp 7, .emp 7, .pv (.int .i64 (0)), .pv (.int .i64 (0))] [(0, 1, .c (.pv (.int .i64 (4)))), (1, 1, .t 126), (6, 1, .t 133), (5, 1, .t 137)], none, 4095⟩,
 ⟨none, .store 7 (.t 4) (.t 138), none, 8191⟩] true)
 (.ret))))⟩
def c_heap_PutBytes : RFn := ⟨4, 47, [.tmp 8, .tmp 9],
 .seq (.reg [⟨(some 5), .box 7 (.t 1), none, 0⟩,
 ⟨(some 8), .mv (.c (.emp 7)), none, 0⟩,
 ⟨(some 9), .mv (.c (.pv (.int .i64 (0)))), none, 2⟩] false)
 (.seq (.reg [⟨(some 14), .mv (.t 0), none, 0⟩,
 ⟨(some 15), .load true 7 (.t 5), none, 0⟩,
 ⟨(some 16), .bsl 1 1 [.pv (.int .i64 (0))] [(0, .c (.pv (.int .i64 (6))))], none, 0⟩,
 ⟨(some 17), .call (.f n_heap_viewOf) [.t 14, .t 15, .t 16], none, 7⟩,
 ⟨(some 13), .mv (.t 17), none, 15⟩,
 ⟨(some 18), .extract (.t 13) 0, none, 31⟩,
 ⟨(some 19), .extract (.t 13) 1, none, 31⟩,
 ⟨(some 10), .alloc [.emp 7, .pv (.int .i64 (0)), .pv (.bool false), .pv (.int .i64 (0)), .pv (.str []), .pv (.int .i64 (0)), .pv (.int .i64 (0)), .pv (.int .i64 (0))], none, 0⟩,
 ⟨none, .store 8 (.t 10) (.t 18), none, 191⟩,
 ⟨(some 11), .mv (.t 19), none, 511⟩] false)
 (.seq (.seq (.reg [⟨(some 20), .mv (.t 11), none, 0⟩,
 ⟨(some 21), .bin .eql (.t 20) (.c (.pv (.int .i64 (0)))), none, 1⟩] false)
 (.cond (.t 21)
 (.reg [⟨(some 22), .load true 8 (.t 10), none, 0⟩,
 ⟨(some 23), .mv (.t 2), none, 0⟩,
 ⟨(some 24), .mv (.t 3), none, 0⟩,
 ⟨(some 25), .strlen (.t 24), none, 4⟩,
 ⟨(some 26), .call (.f n_heap_view_room) [.t 22, .t 23, .t 25], none, 15⟩,
 ⟨(some 11), .mv (.t 26), none, 31⟩] false)
 (.skip)))
 (.seq (.seq (.reg [⟨(some 27), .mv (.t 11), none, 0⟩,
 ⟨(some 28), .bin .neq (.t 27) (.c (.pv (.int .i64 (0)))), none, 1⟩] false)
 (.cond (.t 28)
 (.seq (.reg [⟨(some 29), .mv (.t 11), none, 0⟩,
 ⟨(some 8), .mv (.c (.emp 7)), none, 0⟩,
 ⟨(some 9), .mv (.t 29), none, 3⟩] false)
 (.ret))
 (.skip)))
 (.seq (.reg [⟨(some 30), .load true 8 (.t 10), none, 0⟩,
 ⟨(some 31), .call (.f n_heap_view_cell) [.t 30], none, 1⟩,
 ⟨(some 12), .alloc [.pv (.int .i64 (0)), .pv (.str []), .emp 7, .emp 7, .emp 7, .pv (.int .i64 (0)), .pv (.int .i64 (0))], none, 0⟩,
 ⟨none, .store 7 (.t 12) (.t 31), none, 7⟩] false)
 (.seq (.reg [⟨(some 32), .faddr (.t 12) 1, none, 0⟩,
 ⟨(some 33), .load false 1 (.t 32), none, 1⟩,
 ⟨(some 34), .s2b (.t 33), none, 3⟩,
 ⟨(some 35), .faddr (.t 5) 5, none, 0⟩,
 ⟨(some 36), .load false 1 (.t 35), none, 8⟩,
 ⟨(some 37), .mv (.t 2), none, 0⟩,
 ⟨(some 38), .bin .add (.t 36) (.t 37), none, 56⟩,
 ⟨(some 39), .mv (.t 3), none, 0⟩,
 ⟨(some 40), .s2b (.t 39), none, 128⟩,
 ⟨(some 41), .call (.f n_heap_replaced_byte) [.t 34, .t 38, .t 40], none, 511⟩,
 ⟨(some 42), .b2s (.t 41), none, 1023⟩,
 ⟨(some 43), .faddr (.t 12) 1, none, 2047⟩,
 ⟨none, .store 1 (.t 43) (.t 42), none, 4095⟩] false)
 (.seq (.reg [⟨(some 44), .load true 8 (.t 10), none, 0⟩,
 ⟨(some 45), .load true 7 (.t 12), none, 0⟩,
 ⟨(some 46), .call (.f n_heap_view_with) [.t 44, .t 45], none, 3⟩,
 ⟨(some 8), .mv (.t 46), none, 7⟩,
 ⟨(some 9), .mv (.c (.pv (.int .i64 (0)))), none, 15⟩] false)
 (.ret)))))))⟩
def c_ref11_SameG : RFn := ⟨2, 90, [.tmp 4],
 .seq (.reg [⟨(some 2), .box 57 (.t 0), none, 0⟩,
 ⟨(some 3), .box 57 (.t 1), none, 0⟩,
 ⟨(some 4), .mv (.c (.pv (.bool false))), none, 0⟩] false)
 (.seq (.reg [⟨(some 5), .faddr (.t 2) 0, none, 0⟩,
 ⟨(some 6), .load true 6 (.t 5), none, 1⟩,
 ⟨(some 7), .faddr (.t 3) 0, none, 0⟩,
 ⟨(some 8), .load true 6 (.t 7), none, 4⟩,
 ⟨(some 9), .eqs false [0, 0, 0, 0, 0, 0] (.t 6) (.t 8), none, 15⟩,
 ⟨(some 10), .mv (.t 9), none, 31⟩,
 ⟨(some 11), .faddr (.t 2) 6, (some (10, true)), 63⟩,
 ⟨(some 12), .load false 1 (.t 11), (some (10, true)), 127⟩,
 ⟨(some 13), .slen (.t 12), (some (10, true)), 255⟩,
 ⟨(some 14), .faddr (.t 3) 6, (some (10, true)), 63⟩,
 ⟨(some 15), .load false 1 (.t 14), (some (10, true)), 575⟩,
 ⟨(some 16), .slen (.t 15), (some (10, true)), 1599⟩,
 ⟨(some 17), .bin .eql (.t 13) (.t 16), (some (10, true)), 4095⟩,
 ⟨(some 18), .pick (.t 10) (.t 17) (.c (.pv (.bool false))), none, 8191⟩,
 ⟨(some 19), .mv (.t 18), none, 16383⟩,
 ⟨(some 20), .faddr (.t 2) 7, (some (19, true)), 32767⟩,
 ⟨(some 21), .faddr (.t 20) 0, (some (19, true)), 65535⟩,
 ⟨(some 22), .load false 1 (.t 21), (some (19, true)), 131071⟩,
 ⟨(some 23), .faddr (.t 3) 7, (some (19, true)), 32767⟩,
 ⟨(some 24), .faddr (.t 23) 0, (some (19, true)), 294911⟩,
 ⟨(some 25), .load false 1 (.t 24), (some (19, true)), 819199⟩,
 ⟨(some 26), .bin .eql (.t 22) (.t 25), (some (19, true)), 2097151⟩,
 ⟨(some 27), .pick (.t 19) (.t 26) (.c (.pv (.bool false))), none, 4194303⟩,
 ⟨(some 28), .mv (.t 27), none, 8388607⟩,
 ⟨(some 29), .faddr (.t 2) 7, (some (28, true)), 16777215⟩,
 ⟨(some 30), .faddr (.t 29) 1, (some (28, true)), 33554431⟩,
 ⟨(some 31), .load true 4 (.t 30), (some (28, true)), 67108863⟩,
 ⟨(some 32), .faddr (.t 3) 7, (some (28, true)), 16777215⟩,
 ⟨(some 33), .faddr (.t 32) 1, (some (28, true)), 150994943⟩,
 ⟨(some 34), .load true 4 (.t 33), (some (28, true)), 419430399⟩,
 ⟨(some 35), .eqs false [0, 0, 0, 0] (.t 31) (.t 34), (some (28, true)), 1073741823⟩,
 ⟨(some 36), .pick (.t 28) (.t 35) (.c (.pv (.bool false))), none, 2147483647⟩,
 ⟨(some 37), .mv (.t 36), none, 4294967295⟩,
 ⟨(some 38), .faddr (.t 2) 34, (some (37, true)), 8589934591⟩,
 ⟨(some 39), .faddr (.t 38) 0, (some (37, true)), 17179869183⟩,
 ⟨(some 40), .load false 1 (.t 39), (some (37, true)), 34359738367⟩,
 ⟨(some 41), .faddr (.t 3) 34, (some (37, true)), 8589934591⟩,
 ⟨(some 42), .faddr (.t 41) 0, (some (37, true)), 77309411327⟩,
 ⟨(some 43), .load false 1 (.t 42), (some (37, true)), 214748364799⟩,
 ⟨(some 44), .bin .eql (.t 40) (.t 43), (some (37, true)), 549755813887⟩,
 ⟨(some 45), .pick (.t 37) (.t 44) (.c (.pv (.bool false))), none, 1099511627775⟩,
 ⟨(some 46), .mv (.t 45), none, 2199023255551⟩,
 ⟨(some 47), .faddr (.t 2) 40, (some (46, true)), 4398046511103⟩,
 ⟨(some 48), .load false 1 (.t 47), (some (46, true)), 8796093022207⟩,
 ⟨(some 49), .faddr (.t 3) 40, (some (46, true)), 4398046511103⟩,
 ⟨(some 50), .load false 1 (.t 49), (some (46, true)), 21990232555519⟩,
 ⟨(some 51), .bin .eql (.t 48) (.t 50), (some (46, true)), 70368744177663⟩,
 ⟨(some 52), .pick (.t 46) (.t 51) (.c (.pv (.bool false))), none, 140737488355327⟩,
 ⟨(some 53), .mv (.t 52), none, 281474976710655⟩,
 ⟨(some 54), .faddr (.t 2) 41, (some (53, true)), 562949953421311⟩,
 ⟨(some 55), .load false 1 (.t 54), (some (53, true)), 1125899906842623⟩,
 ⟨(some 56), .slen (.t 55), (some (53, true)), 2251799813685247⟩,
 ⟨(some 57), .faddr (.t 3) 41, (some (53, true)), 562949953421311⟩,
 ⟨(some 58), .load false 1 (.t 57), (some (53, true)), 5066549580791807⟩,
 ⟨(some 59), .slen (.t 58), (some (53, true)), 14073748835532799⟩,
 ⟨(some 60), .bin .eql (.t 56) (.t 59), (some (53, true)), 36028797018963967⟩,
 ⟨(some 61), .pick (.t 53) (.t 60) (.c (.pv (.bool false))), none, 72057594037927935⟩,
 ⟨(some 62), .mv (.t 61), none, 144115188075855871⟩,
 ⟨(some 63), .faddr (.t 2) 42, (some (62, true)), 288230376151711743⟩,
 ⟨(some 64), .load true 7 (.t 63), (some (62, true)), 576460752303423487⟩,
 ⟨(some 65), .faddr (.t 3) 42, (some (62, true)), 288230376151711743⟩,
 ⟨(some 66), .load true 7 (.t 65), (some (62, true)), 1441151880758558719⟩,
 ⟨(some 67), .eqs false [0, 1, 0, 2, 0, 0, 0] (.t 64) (.t 66), (some (62, true)), 4611686018427387903⟩,
 ⟨(some 68), .pick (.t 62) (.t 67) (.c (.pv (.bool false))), none, 9223372036854775807⟩,
 ⟨(some 69), .mv (.t 68), none, 18446744073709551615⟩,
 ⟨(some 70), .faddr (.t 2) 49, (some (69, true)), 36893488147419103231⟩,
 ⟨(some 71), .load true 6 (.t 70), (some (69, true)), 73786976294838206463⟩,
 ⟨(some 72), .faddr (.t 3) 49, (some (69, true)), 36893488147419103231⟩,
 ⟨(some 73), .load true 6 (.t 72), (some (69, true)), 184467440737095516159⟩,
 ⟨(some 74), .eqs false [0, 0, 0, 0, 0, 0] (.t 71) (.t 73), (some (69, true)), 590295810358705651711⟩,
 ⟨(some 75), .pick (.t 69) (.t 74) (.c (.pv (.bool false))), none, 1180591620717411303423⟩,
 ⟨(some 76), .mv (.t 75), none, 2361183241434822606847⟩,
 ⟨(some 77), .faddr (.t 2) 55, (some (76, true)), 4722366482869645213695⟩,
 ⟨(some 78), .load false 1 (.t 77), (some (76, true)), 9444732965739290427391⟩,
 ⟨(some 79), .faddr (.t 3) 55, (some (76, true)), 4722366482869645213695⟩,
 ⟨(some 80), .load false 1 (.t 79), (some (76, true)), 23611832414348226068479⟩,
 ⟨(some 81), .bin .eql (.t 78) (.t 80), (some (76, true)), 75557863725914323419135⟩,
 ⟨(some 82), .pick (.t 76) (.t 81) (.c (.pv (.bool false))), none, 151115727451828646838271⟩,
 ⟨(some 83), .mv (.t 82), none, 302231454903657293676543⟩,
 ⟨(some 84), .faddr (.t 2) 56, (some (83, true)), 604462909807314587353087⟩,
 ⟨(some 85), .load false 1 (.t 84), (some (83, true)), 1208925819614629174706175⟩,
 ⟨(some 86), .faddr (.t 3) 56, (some (83, true)), 604462909807314587353087⟩,
 ⟨(some 87), .load false 1 (.t 86), (some (83, true)), 3022314549036572936765439⟩,
 ⟨(some 88), .bin .eql (.t 85) (.t 87), (some (83, true)), 9671406556917033397649407⟩,
 ⟨(some 89), .pick (.t 83) (.t 88) (.c (.pv (.bool false))), none, 19342813113834066795298815⟩,
 ⟨(some 4), .mv (.t 89), none, 38685626227668133590597631⟩] false)
 (.ret))⟩
def c_slices_Clone_Obj : RFn := ⟨1, 8, [.tmp 2],
 .seq (.reg [⟨(some 2), .mv (.c (.emp 7)), none, 0⟩] false)
 (.seq (.seq (.reg [⟨(some 3), .mv (.t 0), none, 0⟩,
 ⟨(some 4), .isnil false (.t 3), none, 1⟩] false)
 (.cond (.t 4)
 (.seq (.reg [⟨(some 2), .mv (.c (.emp 7)), none, 0⟩] false)
 (.ret))
 (.skip)))
 (.seq (.reg [⟨(some 5), .bsl 7 0 [.pv (.int .i64 (0)), .pv (.bool false), .pv (.int .i64 (0)), .pv (.str []), .pv (.int .i64 (0)), .pv (.int .i64 (0)), .pv (.int .i64 (0))] [], none, 0⟩,
 ⟨(some 6), .mv (.t 0), none, 0⟩,
 ⟨(some 7), .append 7 64 (.t 5) (.t 6), none, 3⟩,
 ⟨(some 2), .mv (.t 7), none, 7⟩] false)
 (.ret)))⟩
def c_slices_Equal_Obj : RFn := ⟨2, 26, [.tmp 4],
 .seq (.reg [⟨(some 4), .mv (.c (.pv (.bool false))), none, 0⟩] false)
 (.seq (.seq (.reg [⟨(some 6), .mv (.t 0), none, 0⟩,
 ⟨(some 7), .slen (.t 6), none, 1⟩,
 ⟨(some 8), .mv (.t 1), none, 0⟩,
 ⟨(some 9), .slen (.t 8), none, 4⟩,
 ⟨(some 10), .bin .neq (.t 7) (.t 9), none, 15⟩] false)
 (.cond (.t 10)
 (.seq (.reg [⟨(some 4), .mv (.c (.pv (.bool false))), none, 0⟩] false)
 (.ret))
 (.skip)))
 (.seq (.seq (.reg [⟨(some 11), .mv (.t 0), none, 0⟩,
 ⟨(some 12), .slen (.t 11), none, 1⟩,
 ⟨(some 13), .mv (.c (.pv (.int .i64 (0)))), none, 0⟩] false)
 (.block 0
 (.loop [0, 1, 12, 13]
 (.seq (.reg [⟨(some 14), .bin .lss (.t 13) (.t 12), none, 0⟩] false)
 (.seq (.cond (.t 14)
 (.skip)
 (.exit 0))
 (.seq (.block 1
 (.seq (.reg [⟨(some 15), .mv (.t 13), none, 0⟩,
 ⟨(some 5), .mv (.t 15), none, 1⟩] false)
 (.seq (.reg [⟨(some 16), .mv (.t 0), none, 0⟩,
 ⟨(some 17), .mv (.t 5), none, 0⟩,
 ⟨(some 18), .iaddr 7 (.t 16) (.t 17), none, 3⟩,
 ⟨(some 19), .load true 7 (.t 18), none, 7⟩,
 ⟨(some 20), .mv (.t 1), none, 0⟩,
 ⟨(some 21), .mv (.t 5), none, 0⟩,
 ⟨(some 22), .iaddr 7 (.t 20) (.t 21), none, 48⟩,
 ⟨(some 23), .load true 7 (.t 22), none, 112⟩,
 ⟨(some 24), .eqs true [0, 1, 0, 2, 0, 0, 0] (.t 19) (.t 23), none, 255⟩] true)
 (.cond (.t 24)
 (.seq (.reg [⟨(some 4), .mv (.c (.pv (.bool false))), none, 0⟩] false)
 (.ret))
 (.skip)))))
 (.reg [⟨(some 25), .bin .add (.t 13) (.c (.pv (.int .i64 (1)))), none, 0⟩,
 ⟨(some 13), .mv (.t 25), none, 1⟩] false)))))))
 (.seq (.reg [⟨(some 4), .mv (.c (.pv (.bool true))), none, 0⟩] false)
 (.ret))))⟩
def c_ref11_Draft_State : RFn := ⟨1, 63, [.cell 2 true 67],
 .seq (.reg [⟨(some 1), .box 3 (.t 0), none, 0⟩,
 ⟨(some 2), .alloc [.emp 7, .emp 7, .emp 7, .emp 3, .pv (.int .i64 (0)), .pv (.int .i64 (0)), .pv (.int .i64 (0)), .pv (.int .i64 (0)), .pv (.int .i64 (0)), .pv (.int .i64 (0)), .pv (.int .i64 (0)), .emp 7, .pv (.int .i64 (0)), .pv (.int .i64 (0)), .pv (.int .i64 (0)), .pv (.int .i64 (0)), .pv (.int .i64 (0)), .pv (.int .i64 (0)), .pv (.int .i64 (0)), .pv (.int .i64 (0)), .pv (.int .i64 (0)), .pv (.int .i64 (0)), .pv (.int .i64 (0)), .pv (.int .i64 (0)), .pv (.int .i64 (0)), .pv (.int .i64 (0)), .pv (.int .i64 (0)), .pv (.int .i64 (0)), .pv (.int .i64 (0)), .pv (.int .i64 (0)), .pv (.int .i64 (0)), .pv (.int .i64 (0)), .pv (.bool false), .pv (.bool false), .emp 47, .pv (.int .i64 (0)), .pv (.int .i64 (0)), .pv (.int .i64 (0)), .pv (.int .i64 (0)), .pv (.int .i64 (0)), .pv (.int .i64 (0)), .pv (.int .i64 (0)), .pv (.int .i64 (0)), .emp 1, .pv (.int .i64 (0)), .pv (.int .i64 (0)), .emp 2, .pv (.int .i64 (0)), .pv (.bool false), .pv (.int .i64 (0)), .pv (.str []), .pv (.int .i64 (0)), .pv (.int .i64 (0)), .pv (.int .i64 (0)), .pv (.int .i64 (0)), .pv (.int .i64 (0)), .pv (.int .i64 (0)), .pv (.int .i64 (0)), .pv (.int .i64 (0)), .pv (.int .i64 (0)), .pv (.int .i64 (0)), .pv (.int .i64 (0)), .emp 57, .emp 47, .emp 3, .pv (.str []), .pv (.int .i64 (0))], none, 0⟩] false)
 (.seq (.reg [⟨(some 6), .load true 3 (.t 1), none, 0⟩,
 ⟨(some 7), .call (.f n_ref11_Draft_Heap) [.t 6], none, 1⟩,
 ⟨(some 8), .build [.pv (.int .i64 (0)), .pv (.bool false), .pv (.int .i64 (0)), .pv (.str []), .pv (.int .i64 (0)), .pv (.int .i64 (0)), .pv (.int .i64 (0))] [(0, 1, .c (.pv (.int .i64 (9))))], none, 0⟩,
 ⟨(some 9), .build [.pv (.int .i64 (0)), .pv (.bool false), .pv (.int .i64 (0)), .pv (.str []), .pv (.int .i64 (0)), .pv (.int .i64 (0)), .pv (.int .i64 (0))] [(0, 1, .c (.pv (.int .i64 (9)))), (4, 1, .c (.pv (.int .i64 (1))))], none, 0⟩,
 ⟨(some 10), .bsl 7 2 [.pv (.int .i64 (0)), .pv (.bool false), .pv (.int .i64 (0)), .pv (.str []), .pv (.int .i64 (0)), .pv (.int .i64 (0)), .pv (.int .i64 (0))] [(0, .t 8), (1, .t 9)], none, 12⟩,
 ⟨(some 11), .build [.emp 7, .emp 7, .emp 7, .emp 3, .pv (.int .i64 (0)), .pv (.int .i64 (0)), .pv (.int .i64 (0)), .pv (.int .i64 (0)), .pv (.int .i64 (0)), .pv (.int .i64 (0)), .pv (.int .i64 (0)), .emp 7, .pv (.int .i64 (0)), .pv (.int .i64 (0)), .pv (.int .i64 (0)), .pv (.int .i64 (0)), .pv (.int .i64 (0)), .pv (.int .i64 (0)), .pv (.int .i64 (0)), .pv (.int .i64 (0)), .pv (.int .i64 (0)), .pv (.int .i64 (0)), .pv (.int .i64 (0)), .pv (.int .i64 (0)), .pv (.int .i64 (0)), .pv (.int .i64 (0)), .pv (.int .i64 (0)), .pv (.int .i64 (0)), .pv (.int .i64 (0)), .pv (.int .i64 (0)), .pv (.int .i64 (0)), .pv (.int .i64 (0)), .pv (.bool false), .pv (.bool false), .emp 47, .pv (.int .i64 (0)), .pv (.int .i64 (0)), .pv (.int .i64 (0)), .pv (.int .i64 (0)), .pv (.int .i64 (0)), .pv (.int .i64 (0)), .pv (.int .i64 (0)), .pv (.int .i64 (0)), .emp 1, .pv (.int .i64 (0)), .pv (.int .i64 (0)), .emp 2, .pv (.int .i64 (0)), .pv (.bool false), .pv (.int .i64 (0)), .pv (.str []), .pv (.int .i64 (0)), .pv (.int .i64 (0)), .pv (.int .i64 (0)), .pv (.int .i64 (0)), .pv (.int .i64 (0)), .pv (.int .i64 (0)), .pv (.int .i64 (0)), .pv (.int .i64 (0)), .pv (.int .i64 (0)), .pv (.int .i64 (0)), .pv (.int .i64 (0)), .emp 57, .emp 47, .emp 3, .pv (.str []), .pv (.int .i64 (0))] [(2, 1, .t 7), (1, 1, .t 10), (66, 1, .c (.pv (.int .i64 (1))))], none, 31⟩,
 ⟨(some 3), .alloc [.emp 7, .emp 7, .emp 7, .emp 3, .pv (.int .i64 (0)), .pv (.int .i64 (0)), .pv (.int .i64 (0)), .pv (.int .i64 (0)), .pv (.int .i64 (0)), .pv (.int .i64 (0)), .pv (.int .i64 (0)), .emp 7, .pv (.int .i64 (0)), .pv (.int .i64 (0)), .pv (.int .i64 (0)), .pv (.int .i64 (0)), .pv (.int .i64 (0)), .pv (.int .i64 (0)), .pv (.int .i64 (0)), .pv (.int .i64 (0)), .pv (.int .i64 (0)), .pv (.int .i64 (0)), .pv (.int .i64 (0)), .pv (.int .i64 (0)), .pv (.int .i64 (0)), .pv (.int .i64 (0)), .pv (.int .i64 (0)), .pv (.int .i64 (0)), .pv (.int .i64 (0)), .pv (.int .i64 (0)), .pv (.int .i64 (0)), .pv (.int .i64 (0)), .pv (.bool false), .pv (.bool false), .emp 47, .pv (.int .i64 (0)), .pv (.int .i64 (0)), .pv (.int .i64 (0)), .pv (.int .i64 (0)), .pv (.int .i64 (0)), .pv (.int .i64 (0)), .pv (.int .i64 (0)), .pv (.int .i64 (0)), .emp 1, .pv (.int .i64 (0)), .pv (.int .i64 (0)), .emp 2, .pv (.int .i64 (0)), .pv (.bool false), .pv (.int .i64 (0)), .pv (.str []), .pv (.int .i64 (0)), .pv (.int .i64 (0)), .pv (.int .i64 (0)), .pv (.int .i64 (0)), .pv (.int .i64 (0)), .pv (.int .i64 (0)), .pv (.int .i64 (0)), .pv (.int .i64 (0)), .pv (.int .i64 (0)), .pv (.int .i64 (0)), .pv (.int .i64 (0)), .emp 57, .emp 47, .emp 3, .pv (.str []), .pv (.int .i64 (0))], none, 0⟩,
 ⟨none, .store 67 (.t 3) (.t 11), none, 127⟩] false)
 (.seq (.seq (.reg [⟨(some 4), .mv (.c (.pv (.int .i64 (0)))), none, 0⟩] false)
 (.block 0
 (.loop [1, 2, 3, 4]
 (.seq (.seq (.reg [⟨(some 12), .mv (.t 4), none, 0⟩,
 ⟨(some 13), .faddr (.t 1) 1, none, 0⟩,
 ⟨(some 14), .load false 1 (.t 13), none, 2⟩,
 ⟨(some 15), .slen (.t 14), none, 6⟩,
 ⟨(some 16), .bin .lss (.t 12) (.t 15), none, 15⟩,
 ⟨(some 17), .mv (.t 16), none, 31⟩,
 ⟨(some 18), .mv (.t 4), (some (17, true)), 63⟩,
 ⟨(some 19), .bin .lss (.t 18) (.c (.pv (.int .i64 (20)))), (some (17, true)), 127⟩,
 ⟨(some 20), .pick (.t 17) (.t 19) (.c (.pv (.bool false))), none, 255⟩] false)
 (.cond (.t 20)
 (.skip)
 (.exit 0)))
 (.seq (.block 1
 (.reg [⟨(some 23), .faddr (.t 3) 0, none, 0⟩,
 ⟨(some 24), .load false 1 (.t 23), none, 1⟩,
 ⟨(some 25), .faddr (.t 1) 1, none, 0⟩,
 ⟨(some 26), .load false 1 (.t 25), none, 4⟩,
 ⟨(some 27), .mv (.t 4), none, 0⟩,
 ⟨(some 28), .iaddr 5 (.t 26) (.t 27), none, 28⟩,
 ⟨(some 29), .load true 5 (.t 28), none, 60⟩,
 ⟨(some 30), .faddr (.t 3) 2, none, 0⟩,
 ⟨(some 31), .load false 1 (.t 30), none, 128⟩,
 ⟨(some 32), .call (.f n_ref11_Word_Obj) [.t 29, .t 31], none, 508⟩,
 ⟨(some 33), .bsl 7 1 [.pv (.int .i64 (0)), .pv (.bool false), .pv (.int .i64 (0)), .pv (.str []), .pv (.int .i64 (0)), .pv (.int .i64 (0)), .pv (.int .i64 (0))] [(0, .t 32)], none, 1020⟩,
 ⟨(some 34), .append 7 64 (.t 24) (.t 33), none, 2047⟩,
 ⟨(some 35), .faddr (.t 3) 0, none, 4095⟩,
 ⟨none, .store 1 (.t 35) (.t 34), none, 8191⟩] true))
 (.reg [⟨(some 21), .mv (.t 4), none, 0⟩,
 ⟨(some 22), .bin .add (.t 21) (.c (.pv (.int .i64 (1)))), none, 1⟩,
 ⟨(some 4), .mv (.t 22), none, 3⟩] false))))))
 (.seq (.seq (.reg [⟨(some 5), .mv (.c (.pv (.int .i64 (0)))), none, 0⟩] false)
 (.block 2
 (.loop [1, 2, 3, 5]
 (.seq (.seq (.reg [⟨(some 36), .mv (.t 5), none, 0⟩,
 ⟨(some 37), .faddr (.t 1) 2, none, 0⟩,
 ⟨(some 38), .load false 1 (.t 37), none, 2⟩,
 ⟨(some 39), .slen (.t 38), none, 6⟩,
 ⟨(some 40), .bin .lss (.t 36) (.t 39), none, 15⟩,
 ⟨(some 41), .mv (.t 40), none, 31⟩,
 ⟨(some 42), .mv (.t 5), (some (41, true)), 63⟩,
 ⟨(some 43), .bin .lss (.t 42) (.c (.pv (.int .i64 (4)))), (some (41, true)), 127⟩,
 ⟨(some 44), .pick (.t 41) (.t 43) (.c (.pv (.bool false))), none, 255⟩] false)
 (.cond (.t 44)
 (.skip)
 (.exit 2)))
 (.seq (.block 3
 (.reg [⟨(some 47), .faddr (.t 3) 1, none, 0⟩,
 ⟨(some 48), .load false 1 (.t 47), none, 1⟩,
 ⟨(some 49), .faddr (.t 3) 2, none, 0⟩,
 ⟨(some 50), .load false 1 (.t 49), none, 4⟩,
 ⟨(some 51), .faddr (.t 1) 2, none, 0⟩,
 ⟨(some 52), .load false 1 (.t 51), none, 16⟩,
 ⟨(some 53), .mv (.t 5), none, 0⟩,
 ⟨(some 54), .iaddr 1 (.t 52) (.t 53), none, 112⟩,
 ⟨(some 55), .load false 1 (.t 54), none, 240⟩,
 ⟨(some 56), .conv .i64 (.t 55), none, 496⟩,
 ⟨(some 57), .call (.f n_ref11_pick) [.t 50, .c (.pv (.int .i64 (3))), .t 56], none, 1020⟩,
 ⟨(some 58), .build [.pv (.int .i64 (0)), .pv (.bool false), .pv (.int .i64 (0)), .pv (.str []), .pv (.int .i64 (0)), .pv (.int .i64 (0)), .pv (.int .i64 (0))] [(0, 1, .c (.pv (.int .i64 (9)))), (4, 1, .t 57)], none, 2044⟩,
 ⟨(some 59), .bsl 7 1 [.pv (.int .i64 (0)), .pv (.bool false), .pv (.int .i64 (0)), .pv (.str []), .pv (.int .i64 (0)), .pv (.int .i64 (0)), .pv (.int .i64 (0))] [(0, .t 58)], none, 4092⟩,
 ⟨(some 60), .append 7 64 (.t 48) (.t 59), none, 8191⟩,
 ⟨(some 61), .faddr (.t 3) 1, none, 16383⟩,
 ⟨none, .store 1 (.t 61) (.t 60), none, 32767⟩] true))
 (.reg [⟨(some 45), .mv (.t 5), none, 0⟩,
 ⟨(some 46), .bin .add (.t 45) (.c (.pv (.int .i64 (1)))), none, 1⟩,
 ⟨(some 5), .mv (.t 46), none, 3⟩] false))))))
 (.seq (.reg [⟨(some 62), .load true 67 (.t 3), none, 0⟩,
 ⟨none, .store 67 (.t 2) (.t 62), none, 1⟩] false)
 (.ret)))))⟩
def c_ref11_Categories : RFn := ⟨0, 2, [.tmp 0],
 .seq (.reg [⟨(some 0), .mv (.c (.emp 1)), none, 0⟩] false)
 (.seq (.reg [⟨(some 1), .bsl 1 5 [.pv (.str [])] [(0, .c (.pv (.str [70, 111, 110, 116]))), (1, .c (.pv (.str [80, 97, 116, 116, 101, 114, 110]))), (2, .c (.pv (.str [69, 110, 99, 111, 100, 105, 110, 103]))), (3, .c (.pv (.str [70, 111, 114, 109]))), (4, .c (.pv (.str [71, 101, 110, 101, 114, 105, 99])))], none, 0⟩,
 ⟨(some 0), .mv (.t 1), none, 1⟩] false)
 (.ret))⟩
def c_law19_first : RFn := ⟨0, 10, [.cell 0 true 67],
 .seq (.reg [⟨(some 0), .alloc [.emp 7, .emp 7, .emp 7, .emp 3, .pv (.int .i64 (0)), .pv (.int .i64 (0)), .pv (.int .i64 (0)), .pv (.int .i64 (0)), .pv (.int .i64 (0)), .pv (.int .i64 (0)), .pv (.int .i64 (0)), .emp 7, .pv (.int .i64 (0)), .pv (.int .i64 (0)), .pv (.int .i64 (0)), .pv (.int .i64 (0)), .pv (.int .i64 (0)), .pv (.int .i64 (0)), .pv (.int .i64 (0)), .pv (.int .i64 (0)), .pv (.int .i64 (0)), .pv (.int .i64 (0)), .pv (.int .i64 (0)), .pv (.int .i64 (0)), .pv (.int .i64 (0)), .pv (.int .i64 (0)), .pv (.int .i64 (0)), .pv (.int .i64 (0)), .pv (.int .i64 (0)), .pv (.int .i64 (0)), .pv (.int .i64 (0)), .pv (.int .i64 (0)), .pv (.bool false), .pv (.bool false), .emp 47, .pv (.int .i64 (0)), .pv (.int .i64 (0)), .pv (.int .i64 (0)), .pv (.int .i64 (0)), .pv (.int .i64 (0)), .pv (.int .i64 (0)), .pv (.int .i64 (0)), .pv (.int .i64 (0)), .emp 1, .pv (.int .i64 (0)), .pv (.int .i64 (0)), .emp 2, .pv (.int .i64 (0)), .pv (.bool false), .pv (.int .i64 (0)), .pv (.str []), .pv (.int .i64 (0)), .pv (.int .i64 (0)), .pv (.int .i64 (0)), .pv (.int .i64 (0)), .pv (.int .i64 (0)), .pv (.int .i64 (0)), .pv (.int .i64 (0)), .pv (.int .i64 (0)), .pv (.int .i64 (0)), .pv (.int .i64 (0)), .pv (.int .i64 (0)), .emp 57, .emp 47, .emp 3, .pv (.str []), .pv (.int .i64 (0))], none, 0⟩] false)
 (.seq (.reg [⟨(some 1), .call (.f n_ref11_First) [.c (.emp 1)], none, 0⟩,
 ⟨(some 2), .build [.pv (.int .i64 (0)), .pv (.str []), .emp 7, .emp 7, .emp 7, .pv (.int .i64 (0)), .pv (.int .i64 (0))] [(0, 1, .c (.pv (.int .i64 (1)))), (1, 1, .c (.pv (.str [97, 98, 99])))], none, 0⟩,
 ⟨(some 3), .bsl 7 1 [.pv (.int .i64 (0)), .pv (.str []), .emp 7, .emp 7, .emp 7, .pv (.int .i64 (0)), .pv (.int .i64 (0))] [(0, .t 2)], none, 2⟩,
 ⟨(some 4), .append 7 112 (.t 1) (.t 3), none, 7⟩,
 ⟨(some 5), .build [.pv (.int .i64 (0)), .pv (.bool false), .pv (.int .i64 (0)), .pv (.str []), .pv (.int .i64 (0)), .pv (.int .i64 (0)), .pv (.int .i64 (0))] [(0, 1, .c (.pv (.int .i64 (9))))], none, 0⟩,
 ⟨(some 6), .build [.pv (.int .i64 (0)), .pv (.bool false), .pv (.int .i64 (0)), .pv (.str []), .pv (.int .i64 (0)), .pv (.int .i64 (0)), .pv (.int .i64 (0))] [(0, 1, .c (.pv (.int .i64 (9)))), (4, 1, .c (.pv (.int .i64 (1))))], none, 0⟩,
 ⟨(some 7), .bsl 7 2 [.pv (.int .i64 (0)), .pv (.bool false), .pv (.int .i64 (0)), .pv (.str []), .pv (.int .i64 (0)), .pv (.int .i64 (0)), .pv (.int .i64 (0))] [(0, .t 5), (1, .t 6)], none, 48⟩,
 ⟨(some 8), .build [.pv (.int .i64 (0)), .pv (.int .i64 (0)), .pv (.int .i64 (0)), .pv (.int .i64 (0)), .pv (.int .i64 (0)), .pv (.int .i64 (0)), .emp 7, .pv (.int .i64 (0)), .pv (.int .i64 (0)), .pv (.int .i64 (0)), .pv (.int .i64 (0)), .pv (.int .i64 (0)), .pv (.int .i64 (0)), .pv (.int .i64 (0)), .pv (.int .i64 (0)), .pv (.int .i64 (0)), .pv (.int .i64 (0)), .pv (.int .i64 (0)), .pv (.int .i64 (0)), .pv (.int .i64 (0)), .pv (.int .i64 (0)), .pv (.int .i64 (0)), .pv (.int .i64 (0)), .pv (.int .i64 (0)), .pv (.int .i64 (0)), .pv (.int .i64 (0)), .pv (.int .i64 (0)), .pv (.bool false), .pv (.bool false), .emp 47, .pv (.int .i64 (0)), .pv (.int .i64 (0)), .pv (.int .i64 (0)), .pv (.int .i64 (0)), .pv (.int .i64 (0)), .pv (.int .i64 (0)), .pv (.int .i64 (0)), .pv (.int .i64 (0)), .emp 1, .pv (.int .i64 (0)), .pv (.int .i64 (0)), .emp 2, .pv (.int .i64 (0)), .pv (.bool false), .pv (.int .i64 (0)), .pv (.str []), .pv (.int .i64 (0)), .pv (.int .i64 (0)), .pv (.int .i64 (0)), .pv (.int .i64 (0)), .pv (.int .i64 (0)), .pv (.int .i64 (0)), .pv (.int .i64 (0)), .pv (.int .i64 (0)), .pv (.int .i64 (0)), .pv (.int .i64 (0)), .pv (.int .i64 (0))] [(40, 1, .c (.pv (.int .i64 (1))))], none, 0⟩,
 ⟨(some 9), .build [.emp 7, .emp 7, .emp 7, .emp 3, .pv (.int .i64 (0)), .pv (.int .i64 (0)), .pv (.int .i64 (0)), .pv (.int .i64 (0)), .pv (.int .i64 (0)), .pv (.int .i64 (0)), .pv (.int .i64 (0)), .emp 7, .pv (.int .i64 (0)), .pv (.int .i64 (0)), .pv (.int .i64 (0)), .pv (.int .i64 (0)), .pv (.int .i64 (0)), .pv (.int .i64 (0)), .pv (.int .i64 (0)), .pv (.int .i64 (0)), .pv (.int .i64 (0)), .pv (.int .i64 (0)), .pv (.int .i64 (0)), .pv (.int .i64 (0)), .pv (.int .i64 (0)), .pv (.int .i64 (0)), .pv (.int .i64 (0)), .pv (.int .i64 (0)), .pv (.int .i64 (0)), .pv (.int .i64 (0)), .pv (.int .i64 (0)), .pv (.int .i64 (0)), .pv (.bool false), .pv (.bool false), .emp 47, .pv (.int .i64 (0)), .pv (.int .i64 (0)), .pv (.int .i64 (0)), .pv (.int .i64 (0)), .pv (.int .i64 (0)), .pv (.int .i64 (0)), .pv (.int .i64 (0)), .pv (.int .i64 (0)), .emp 1, .pv (.int .i64 (0)), .pv (.int .i64 (0)), .emp 2, .pv (.int .i64 (0)), .pv (.bool false), .pv (.int .i64 (0)), .pv (.str []), .pv (.int .i64 (0)), .pv (.int .i64 (0)), .pv (.int .i64 (0)), .pv (.int .i64 (0)), .pv (.int .i64 (0)), .pv (.int .i64 (0)), .pv (.int .i64 (0)), .pv (.int .i64 (0)), .pv (.int .i64 (0)), .pv (.int .i64 (0)), .pv (.int .i64 (0)), .emp 57, .emp 47, .emp 3, .pv (.str []), .pv (.int .i64 (0))] [(2, 1, .t 4), (1, 1, .t 7), (5, 57, .t 8)], none, 255⟩,
 ⟨none, .store 67 (.t 0) (.t 9), none, 511⟩] false)
 (.ret))⟩
def c_save_Newer : RFn := ⟨2, 17, [.tmp 4],
 .seq (.reg [⟨(some 2), .box 7 (.t 0), none, 0⟩,
 ⟨(some 4), .mv (.c (.pv (.bool false))), none, 0⟩] false)
 (.seq (.seq (.reg [⟨(some 5), .faddr (.t 2) 0, none, 0⟩,
 ⟨(some 6), .load false 1 (.t 5), none, 1⟩] false)
 (.block 0
 (.seq (.seq (.reg [⟨(some 8), .bin .eql (.t 6) (.c (.pv (.int .i64 (6)))), none, 0⟩,
 ⟨(some 7), .mv (.t 8), none, 1⟩] false)
 (.cond (.t 7)
 (.skip)
 (.seq (.reg [⟨(some 9), .bin .eql (.t 6) (.c (.pv (.int .i64 (7)))), none, 0⟩,
 ⟨(some 7), .mv (.t 9), none, 1⟩] false)
 (.cond (.t 7)
 (.skip)
 (.seq (.reg [⟨(some 10), .bin .eql (.t 6) (.c (.pv (.int .i64 (8)))), none, 0⟩,
 ⟨(some 7), .mv (.t 10), none, 1⟩] false)
 (.cond (.t 7)
 (.skip)
 (.seq (.reg [⟨(some 11), .bin .eql (.t 6) (.c (.pv (.int .i64 (9)))), none, 0⟩,
 ⟨(some 7), .mv (.t 11), none, 1⟩] false)
 (.cond (.t 7)
 (.skip)
 (.reg [⟨(some 12), .bin .eql (.t 6) (.c (.pv (.int .i64 (11)))), none, 0⟩,
 ⟨(some 7), .mv (.t 12), none, 1⟩] false)))))))))
 (.cond (.t 7)
 (.seq (.reg [⟨(some 13), .faddr (.t 2) 4, none, 0⟩,
 ⟨(some 14), .load false 1 (.t 13), none, 1⟩,
 ⟨(some 15), .mv (.t 1), none, 0⟩,
 ⟨(some 16), .bin .geq (.t 14) (.t 15), none, 7⟩,
 ⟨(some 4), .mv (.t 16), none, 15⟩] false)
 (.ret))
 (.skip)))))
 (.seq (.reg [⟨(some 4), .mv (.c (.pv (.bool false))), none, 0⟩] false)
 (.ret)))⟩
def c_ref11_part : RFn := ⟨4, 76, [.cell 8 true 7],
 .seq (.reg [⟨(some 7), .box 5 (.t 3), none, 0⟩,
 ⟨(some 8), .alloc [.pv (.int .i64 (0)), .pv (.bool false), .pv (.int .i64 (0)), .pv (.str []), .pv (.int .i64 (0)), .pv (.int .i64 (0)), .pv (.int .i64 (0))], none, 0⟩] false)
 (.seq (.reg [⟨(some 11), .mv (.t 0), none, 0⟩,
 ⟨(some 12), .mv (.t 2), none, 0⟩,
 ⟨(some 13), .faddr (.t 7) 1, none, 0⟩,
 ⟨(some 14), .load false 1 (.t 13), none, 4⟩,
 ⟨(some 15), .conv .i64 (.t 14), none, 12⟩,
 ⟨(some 16), .call (.f n_ref11_pick) [.t 11, .t 12, .t 15], none, 31⟩,
 ⟨(some 9), .mv (.t 16), none, 63⟩] false)
 (.seq (.seq (.reg [⟨(some 17), .mv (.t 9), none, 0⟩,
 ⟨(some 18), .bin .lss (.t 17) (.c (.pv (.int .i64 (0)))), none, 1⟩] false)
 (.cond (.t 18)
 (.seq (.reg [⟨(some 19), .faddr (.t 7) 1, none, 0⟩,
 ⟨(some 20), .load false 1 (.t 19), none, 1⟩,
 ⟨(some 21), .conv .i64 (.t 20), none, 3⟩,
 ⟨(some 22), .build [.pv (.int .i64 (0)), .pv (.bool false), .pv (.int .i64 (0)), .pv (.str []), .pv (.int .i64 (0)), .pv (.int .i64 (0)), .pv (.int .i64 (0))] [(0, 1, .c (.pv (.int .i64 (3)))), (2, 1, .t 21)], none, 7⟩,
 ⟨none, .store 7 (.t 8) (.t 22), none, 15⟩] false)
 (.ret))
 (.skip)))
 (.seq (.reg [⟨(some 23), .mv (.t 1), none, 0⟩,
 ⟨(some 24), .faddr (.t 7) 3, none, 0⟩,
 ⟨(some 25), .load false 1 (.t 24), none, 2⟩,
 ⟨(some 26), .bin .rem (.t 25) (.c (.pv (.int .i32 (5)))), none, 6⟩,
 ⟨(some 27), .bin .eql (.t 26) (.c (.pv (.int .i32 (3)))), none, 14⟩,
 ⟨(some 28), .mv (.t 9), none, 0⟩,
 ⟨(some 29), .build [.pv (.int .i64 (0)), .pv (.bool false), .pv (.int .i64 (0)), .pv (.str []), .pv (.int .i64 (0)), .pv (.int .i64 (0)), .pv (.int .i64 (0))] [(0, 1, .t 23), (1, 1, .t 27), (4, 1, .t 28)], none, 63⟩,
 ⟨(some 10), .alloc [.pv (.int .i64 (0)), .pv (.bool false), .pv (.int .i64 (0)), .pv (.str []), .pv (.int .i64 (0)), .pv (.int .i64 (0)), .pv (.int .i64 (0))], none, 0⟩,
 ⟨none, .store 7 (.t 10) (.t 29), none, 255⟩] false)
 (.seq (.seq (.reg [⟨(some 30), .mv (.t 2), none, 0⟩,
 ⟨(some 31), .bin .eql (.t 30) (.c (.pv (.int .i64 (3)))), none, 1⟩,
 ⟨(some 32), .mv (.t 31), none, 3⟩,
 ⟨(some 33), .mv (.t 2), (some (32, false)), 7⟩,
 ⟨(some 34), .bin .eql (.t 33) (.c (.pv (.int .i64 (4)))), (some (32, false)), 15⟩,
 ⟨(some 35), .pick (.t 32) (.c (.pv (.bool true))) (.t 34), none, 31⟩] false)
 (.cond (.t 35)
 (.seq (.reg [⟨(some 36), .load true 7 (.t 10), none, 0⟩,
 ⟨none, .store 7 (.t 8) (.t 36), none, 1⟩] false)
 (.ret))
 (.skip)))
 (.seq (.reg [⟨(some 37), .mv (.t 0), none, 0⟩,
 ⟨(some 38), .mv (.t 9), none, 0⟩,
 ⟨(some 39), .iaddr 7 (.t 37) (.t 38), none, 3⟩,
 ⟨(some 40), .faddr (.t 39) 1, none, 7⟩,
 ⟨(some 41), .load false 1 (.t 40), none, 15⟩,
 ⟨(some 42), .strlen (.t 41), none, 31⟩,
 ⟨(some 43), .mv (.t 0), none, 0⟩,
 ⟨(some 44), .mv (.t 9), none, 0⟩,
 ⟨(some 45), .iaddr 7 (.t 43) (.t 44), none, 192⟩,
 ⟨(some 46), .faddr (.t 45) 2, none, 448⟩,
 ⟨(some 47), .load false 1 (.t 46), none, 960⟩,
 ⟨(some 48), .slen (.t 47), none, 1984⟩,
 ⟨(some 49), .bin .add (.t 42) (.t 48), none, 4095⟩,
 ⟨(some 50), .faddr (.t 10) 6, none, 8191⟩,
 ⟨none, .store 1 (.t 50) (.t 49), none, 16383⟩] true)
 (.seq (.seq (.reg [⟨(some 51), .faddr (.t 7) 2, none, 0⟩,
 ⟨(some 52), .load false 1 (.t 51), none, 1⟩,
 ⟨(some 53), .bin .rem (.t 52) (.c (.pv (.int .u8 (3)))), none, 3⟩,
 ⟨(some 54), .bin .eql (.t 53) (.c (.pv (.int .u8 (2)))), none, 7⟩] false)
 (.cond (.t 54)
 (.seq (.reg [⟨(some 55), .faddr (.t 7) 2, none, 0⟩,
 ⟨(some 56), .load false 1 (.t 55), none, 1⟩,
 ⟨(some 57), .conv .i64 (.t 56), none, 3⟩,
 ⟨(some 58), .faddr (.t 10) 6, none, 0⟩,
 ⟨(some 59), .load false 1 (.t 58), none, 8⟩,
 ⟨(some 60), .bin .add (.t 59) (.c (.pv (.int .i64 (1)))), none, 24⟩,
 ⟨(some 61), .bin .rem (.t 57) (.t 60), none, 63⟩,
 ⟨(some 62), .faddr (.t 10) 5, none, 127⟩,
 ⟨none, .store 1 (.t 62) (.t 61), none, 255⟩] false)
 (.reg [⟨(some 63), .faddr (.t 7) 2, none, 0⟩,
 ⟨(some 64), .load false 1 (.t 63), none, 1⟩,
 ⟨(some 65), .conv .i64 (.t 64), none, 3⟩,
 ⟨(some 66), .bin .quo (.t 65) (.c (.pv (.int .i64 (3)))), none, 7⟩,
 ⟨(some 67), .faddr (.t 10) 6, none, 0⟩,
 ⟨(some 68), .load false 1 (.t 67), none, 16⟩,
 ⟨(some 69), .faddr (.t 10) 5, none, 0⟩,
 ⟨(some 70), .load false 1 (.t 69), none, 64⟩,
 ⟨(some 71), .bin .sub (.t 68) (.t 70), none, 240⟩,
 ⟨(some 72), .bin .add (.t 71) (.c (.pv (.int .i64 (1)))), none, 496⟩,
 ⟨(some 73), .bin .rem (.t 66) (.t 72), none, 1023⟩,
 ⟨(some 74), .faddr (.t 10) 6, none, 2047⟩,
 ⟨none, .store 1 (.t 74) (.t 73), none, 4095⟩] false))
 (.skip)))
 (.seq (.reg [⟨(some 75), .load true 7 (.t 10), none, 0⟩,
 ⟨none, .store 7 (.t 8) (.t 75), none, 1⟩] false)
 (.ret))))))))⟩
def c_save_keeper_save : RFn := ⟨1, 76, [.cell 2 true 67, .tmp 3],
 .seq (.reg [⟨(some 1), .box 67 (.t 0), none, 0⟩,
 ⟨(some 2), .alloc [.emp 7, .emp 7, .emp 7, .emp 3, .pv (.int .i64 (0)), .pv (.int .i64 (0)), .pv (.int .i64 (0)), .pv (.int .i64 (0)), .pv (.int .i64 (0)), .pv (.int .i64 (0)), .pv (.int .i64 (0)), .emp 7, .pv (.int .i64 (0)), .pv (.int .i64 (0)), .pv (.int .i64 (0)), .pv (.int .i64 (0)), .pv (.int .i64 (0)), .pv (.int .i64 (0)), .pv (.int .i64 (0)), .pv (.int .i64 (0)), .pv (.int .i64 (0)), .pv (.int .i64 (0)), .pv (.int .i64 (0)), .pv (.int .i64 (0)), .pv (.int .i64 (0)), .pv (.int .i64 (0)), .pv (.int .i64 (0)), .pv (.int .i64 (0)), .pv (.int .i64 (0)), .pv (.int .i64 (0)), .pv (.int .i64 (0)), .pv (.int .i64 (0)), .pv (.bool false), .pv (.bool false), .emp 47, .pv (.int .i64 (0)), .pv (.int .i64 (0)), .pv (.int .i64 (0)), .pv (.int .i64 (0)), .pv (.int .i64 (0)), .pv (.int .i64 (0)), .pv (.int .i64 (0)), .pv (.int .i64 (0)), .emp 1, .pv (.int .i64 (0)), .pv (.int .i64 (0)), .emp 2, .pv (.int .i64 (0)), .pv (.bool false), .pv (.int .i64 (0)), .pv (.str []), .pv (.int .i64 (0)), .pv (.int .i64 (0)), .pv (.int .i64 (0)), .pv (.int .i64 (0)), .pv (.int .i64 (0)), .pv (.int .i64 (0)), .pv (.int .i64 (0)), .pv (.int .i64 (0)), .pv (.int .i64 (0)), .pv (.int .i64 (0)), .pv (.int .i64 (0)), .emp 57, .emp 47, .emp 3, .pv (.str []), .pv (.int .i64 (0))], none, 0⟩,
 ⟨(some 3), .mv (.c (.pv (.int .i64 (0)))), none, 0⟩] false)
 (.seq (.seq (.reg [⟨(some 6), .faddr (.t 1) 0, none, 0⟩,
 ⟨(some 7), .faddr (.t 6) 3, none, 1⟩,
 ⟨(some 8), .load false 1 (.t 7), none, 3⟩,
 ⟨(some 9), .slen (.t 8), none, 7⟩,
 ⟨(some 10), .bin .geq (.t 9) (.c (.pv (.int .i64 (10)))), none, 15⟩,
 ⟨(some 11), .mv (.t 10), none, 31⟩,
 ⟨(some 12), .faddr (.t 1) 0, (some (11, false)), 63⟩,
 ⟨(some 13), .faddr (.t 12) 62, (some (11, false)), 127⟩,
 ⟨(some 14), .load false 1 (.t 13), (some (11, false)), 255⟩,
 ⟨(some 15), .slen (.t 14), (some (11, false)), 511⟩,
 ⟨(some 16), .bin .geq (.t 15) (.c (.pv (.int .i64 (20)))), (some (11, false)), 1023⟩,
 ⟨(some 17), .pick (.t 11) (.c (.pv (.bool true))) (.t 16), none, 2047⟩] false)
 (.cond (.t 17)
 (.seq (.reg [⟨(some 18), .faddr (.t 1) 0, none, 0⟩,
 ⟨(some 19), .load true 67 (.t 18), none, 1⟩,
 ⟨none, .store 67 (.t 2) (.t 19), none, 3⟩,
 ⟨(some 3), .mv (.c (.pv (.int .i64 (26)))), none, 7⟩] false)
 (.ret))
 (.skip)))
 (.seq (.reg [⟨(some 21), .faddr (.t 1) 0, none, 0⟩,
 ⟨(some 22), .load true 67 (.t 21), none, 1⟩,
 ⟨(some 23), .faddr (.t 1) 0, none, 0⟩,
 ⟨(some 24), .faddr (.t 23) 4, none, 4⟩,
 ⟨(some 25), .load false 1 (.t 24), none, 12⟩,
 ⟨(some 26), .bin .add (.t 25) (.c (.pv (.int .i64 (1)))), none, 28⟩,
 ⟨(some 27), .build [.pv (.int .i64 (0)), .pv (.bool false), .pv (.int .i64 (0)), .pv (.str []), .pv (.int .i64 (0)), .pv (.int .i64 (0)), .pv (.int .i64 (0))] [(0, 1, .c (.pv (.int .i64 (12)))), (2, 1, .t 26)], none, 60⟩,
 ⟨(some 28), .bsl 7 1 [.pv (.int .i64 (0)), .pv (.bool false), .pv (.int .i64 (0)), .pv (.str []), .pv (.int .i64 (0)), .pv (.int .i64 (0)), .pv (.int .i64 (0))] [(0, .t 27)], none, 124⟩,
 ⟨(some 29), .call (.f n_stack_Push) [.t 22, .t 28], none, 255⟩,
 ⟨(some 20), .mv (.t 29), none, 511⟩,
 ⟨(some 30), .extract (.t 20) 0, none, 1023⟩,
 ⟨(some 31), .extract (.t 20) 1, none, 1023⟩,
 ⟨(some 4), .alloc [.emp 7, .emp 7, .emp 7, .emp 3, .pv (.int .i64 (0)), .pv (.int .i64 (0)), .pv (.int .i64 (0)), .pv (.int .i64 (0)), .pv (.int .i64 (0)), .pv (.int .i64 (0)), .pv (.int .i64 (0)), .emp 7, .pv (.int .i64 (0)), .pv (.int .i64 (0)), .pv (.int .i64 (0)), .pv (.int .i64 (0)), .pv (.int .i64 (0)), .pv (.int .i64 (0)), .pv (.int .i64 (0)), .pv (.int .i64 (0)), .pv (.int .i64 (0)), .pv (.int .i64 (0)), .pv (.int .i64 (0)), .pv (.int .i64 (0)), .pv (.int .i64 (0)), .pv (.int .i64 (0)), .pv (.int .i64 (0)), .pv (.int .i64 (0)), .pv (.int .i64 (0)), .pv (.int .i64 (0)), .pv (.int .i64 (0)), .pv (.int .i64 (0)), .pv (.bool false), .pv (.bool false), .emp 47, .pv (.int .i64 (0)), .pv (.int .i64 (0)), .pv (.int .i64 (0)), .pv (.int .i64 (0)), .pv (.int .i64 (0)), .pv (.int .i64 (0)), .pv (.int .i64 (0)), .pv (.int .i64 (0)), .emp 1, .pv (.int .i64 (0)), .pv (.int .i64 (0)), .emp 2, .pv (.int .i64 (0)), .pv (.bool false), .pv (.int .i64 (0)), .pv (.str []), .pv (.int .i64 (0)), .pv (.int .i64 (0)), .pv (.int .i64 (0)), .pv (.int .i64 (0)), .pv (.int .i64 (0)), .pv (.int .i64 (0)), .pv (.int .i64 (0)), .pv (.int .i64 (0)), .pv (.int .i64 (0)), .pv (.int .i64 (0)), .pv (.int .i64 (0)), .emp 57, .emp 47, .emp 3, .pv (.str []), .pv (.int .i64 (0))], none, 0⟩,
 ⟨none, .store 67 (.t 4) (.t 30), none, 6143⟩,
 ⟨(some 5), .mv (.t 31), none, 16383⟩] false)
 (.seq (.seq (.reg [⟨(some 32), .mv (.t 5), none, 0⟩,
 ⟨(some 33), .bin .neq (.t 32) (.c (.pv (.int .i64 (0)))), none, 1⟩] false)
 (.cond (.t 33)
 (.seq (.reg [⟨(some 34), .faddr (.t 1) 0, none, 0⟩,
 ⟨(some 35), .load true 67 (.t 34), none, 1⟩,
 ⟨(some 36), .mv (.t 5), none, 0⟩,
 ⟨none, .store 67 (.t 2) (.t 35), none, 3⟩,
 ⟨(some 3), .mv (.t 36), none, 15⟩] false)
 (.ret))
 (.skip)))
 (.seq (.reg [⟨(some 37), .faddr (.t 4) 4, none, 0⟩,
 ⟨(some 38), .load false 1 (.t 37), none, 1⟩,
 ⟨(some 39), .bin .add (.t 38) (.c (.pv (.int .i64 (1)))), none, 3⟩,
 ⟨(some 40), .faddr (.t 4) 4, none, 7⟩,
 ⟨none, .store 1 (.t 40) (.t 39), none, 15⟩] false)
 (.seq (.reg [⟨(some 41), .faddr (.t 4) 3, none, 0⟩,
 ⟨(some 42), .load false 1 (.t 41), none, 1⟩,
 ⟨(some 43), .faddr (.t 4) 3, none, 0⟩,
 ⟨(some 44), .load false 1 (.t 43), none, 4⟩,
 ⟨(some 45), .slen (.t 44), none, 12⟩,
 ⟨(some 46), .faddr (.t 4) 3, none, 0⟩,
 ⟨(some 47), .load false 1 (.t 46), none, 32⟩,
 ⟨(some 48), .slen (.t 47), none, 96⟩,
 ⟨(some 49), .slice 3 (.t 42) none (some (.t 45)) (some (.t 48)), none, 255⟩,
 ⟨(some 50), .faddr (.t 4) 4, none, 0⟩,
 ⟨(some 51), .load false 1 (.t 50), none, 512⟩,
 ⟨(some 52), .faddr (.t 4) 2, none, 0⟩,
 ⟨(some 53), .load false 1 (.t 52), none, 2048⟩,
 ⟨(some 54), .faddr (.t 4) 62, none, 0⟩,
 ⟨(some 55), .load false 1 (.t 54), none, 8192⟩,
 ⟨(some 56), .slen (.t 55), none, 24576⟩,
 ⟨(some 57), .build [.pv (.int .i64 (0)), .emp 7, .pv (.int .i64 (0))] [(0, 1, .t 51), (1, 1, .t 53), (2, 1, .t 56)], none, 65024⟩,
 ⟨(some 58), .bsl 3 1 [.pv (.int .i64 (0)), .emp 7, .pv (.int .i64 (0))] [(0, .t 57)], none, 130560⟩,
 ⟨(some 59), .append 3 40 (.t 49) (.t 58), none, 262143⟩,
 ⟨(some 60), .faddr (.t 4) 3, none, 524287⟩,
 ⟨none, .store 1 (.t 60) (.t 59), none, 1048575⟩] true)
 (.seq (.reg [⟨(some 61), .faddr (.t 4) 62, none, 0⟩,
 ⟨(some 62), .load false 1 (.t 61), none, 1⟩,
 ⟨(some 63), .faddr (.t 4) 62, none, 0⟩,
 ⟨(some 64), .load false 1 (.t 63), none, 4⟩,
 ⟨(some 65), .slen (.t 64), none, 12⟩,
 ⟨(some 66), .faddr (.t 4) 62, none, 0⟩,
 ⟨(some 67), .load false 1 (.t 66), none, 32⟩,
 ⟨(some 68), .slen (.t 67), none, 96⟩,
 ⟨(some 69), .slice 57 (.t 62) none (some (.t 65)) (some (.t 68)), none, 255⟩,
 ⟨(some 70), .faddr (.t 4) 5, none, 0⟩,
 ⟨(some 71), .load true 57 (.t 70), none, 512⟩,
 ⟨(some 72), .bsl 57 1 [.pv (.int .i64 (0)), .pv (.int .i64 (0)), .pv (.int .i64 (0)), .pv (.int .i64 (0)), .pv (.int .i64 (0)), .pv (.int .i64 (0)), .emp 7, .pv (.int .i64 (0)), .pv (.int .i64 (0)), .pv (.int .i64 (0)), .pv (.int .i64 (0)), .pv (.int .i64 (0)), .pv (.int .i64 (0)), .pv (.int .i64 (0)), .pv (.int .i64 (0)), .pv (.int .i64 (0)), .pv (.int .i64 (0)), .pv (.int .i64 (0)), .pv (.int .i64 (0)), .pv (.int .i64 (0)), .pv (.int .i64 (0)), .pv (.int .i64 (0)), .pv (.int .i64 (0)), .pv (.int .i64 (0)), .pv (.int .i64 (0)), .pv (.int .i64 (0)), .pv (.int .i64 (0)), .pv (.bool false), .pv (.bool false), .emp 47, .pv (.int .i64 (0)), .pv (.int .i64 (0)), .pv (.int .i64 (0)), .pv (.int .i64 (0)), .pv (.int .i64 (0)), .pv (.int .i64 (0)), .pv (.int .i64 (0)), .pv (.int .i64 (0)), .emp 1, .pv (.int .i64 (0)), .pv (.int .i64 (0)), .emp 2, .pv (.int .i64 (0)), .pv (.bool false), .pv (.int .i64 (0)), .pv (.str []), .pv (.int .i64 (0)), .pv (.int .i64 (0)), .pv (.int .i64 (0)), .pv (.int .i64 (0)), .pv (.int .i64 (0)), .pv (.int .i64 (0)), .pv (.int .i64 (0)), .pv (.int .i64 (0)), .pv (.int .i64 (0)), .pv (.int .i64 (0)), .pv (.int .i64 (0))] [(0, .t 71)], none, 1536⟩,
 ⟨(some 73), .append 57 520 (.t 69) (.t 72), none, 4095⟩,
 ⟨(some 74), .faddr (.t 4) 62, none, 8191⟩,
 ⟨none, .store 1 (.t 74) (.t 73), none, 16383⟩] true)
 (.seq (.reg [⟨(some 75), .load true 67 (.t 4), none, 0⟩,
 ⟨none, .store 67 (.t 2) (.t 75), none, 1⟩,
 ⟨(some 3), .mv (.c (.pv (.int .i64 (0)))), none, 3⟩] false)
 (.ret))))))))⟩
def c_save_keeper_restore : RFn := ⟨1, 104, [.cell 2 true 67, .tmp 3],
 .seq (.reg [⟨(some 1), .box 67 (.t 0), none, 0⟩,
 ⟨(some 2), .alloc [.emp 7, .emp 7, .emp 7, .emp 3, .pv (.int .i64 (0)), .pv (.int .i64 (0)), .pv (.int .i64 (0)), .pv (.int .i64 (0)), .pv (.int .i64 (0)), .pv (.int .i64 (0)), .pv (.int .i64 (0)), .emp 7, .pv (.int .i64 (0)), .pv (.int .i64 (0)), .pv (.int .i64 (0)), .pv (.int .i64 (0)), .pv (.int .i64 (0)), .pv (.int .i64 (0)), .pv (.int .i64 (0)), .pv (.int .i64 (0)), .pv (.int .i64 (0)), .pv (.int .i64 (0)), .pv (.int .i64 (0)), .pv (.int .i64 (0)), .pv (.int .i64 (0)), .pv (.int .i64 (0)), .pv (.int .i64 (0)), .pv (.int .i64 (0)), .pv (.int .i64 (0)), .pv (.int .i64 (0)), .pv (.int .i64 (0)), .pv (.int .i64 (0)), .pv (.bool false), .pv (.bool false), .emp 47, .pv (.int .i64 (0)), .pv (.int .i64 (0)), .pv (.int .i64 (0)), .pv (.int .i64 (0)), .pv (.int .i64 (0)), .pv (.int .i64 (0)), .pv (.int .i64 (0)), .pv (.int .i64 (0)), .emp 1, .pv (.int .i64 (0)), .pv (.int .i64 (0)), .emp 2, .pv (.int .i64 (0)), .pv (.bool false), .pv (.int .i64 (0)), .pv (.str []), .pv (.int .i64 (0)), .pv (.int .i64 (0)), .pv (.int .i64 (0)), .pv (.int .i64 (0)), .pv (.int .i64 (0)), .pv (.int .i64 (0)), .pv (.int .i64 (0)), .pv (.int .i64 (0)), .pv (.int .i64 (0)), .pv (.int .i64 (0)), .pv (.int .i64 (0)), .emp 57, .emp 47, .emp 3, .pv (.str []), .pv (.int .i64 (0))], none, 0⟩,
 ⟨(some 3), .mv (.c (.pv (.int .i64 (0)))), none, 0⟩] false)
 (.seq (.reg [⟨(some 11), .faddr (.t 1) 0, none, 0⟩,
 ⟨(some 12), .load true 67 (.t 11), none, 1⟩,
 ⟨(some 13), .call (.f n_stack_Top) [.t 12, .c (.pv (.int .i64 (1)))], none, 3⟩,
 ⟨(some 10), .mv (.t 13), none, 7⟩,
 ⟨(some 14), .extract (.t 10) 0, none, 15⟩,
 ⟨(some 15), .extract (.t 10) 1, none, 15⟩,
 ⟨(some 4), .mv (.t 14), none, 31⟩,
 ⟨(some 5), .mv (.t 15), none, 127⟩] false)
 (.seq (.seq (.reg [⟨(some 16), .mv (.t 5), none, 0⟩,
 ⟨(some 17), .bin .neq (.t 16) (.c (.pv (.int .i64 (0)))), none, 1⟩] false)
 (.cond (.t 17)
 (.seq (.reg [⟨(some 18), .faddr (.t 1) 0, none, 0⟩,
 ⟨(some 19), .load true 67 (.t 18), none, 1⟩,
 ⟨(some 20), .mv (.t 5), none, 0⟩,
 ⟨none, .store 67 (.t 2) (.t 19), none, 3⟩,
 ⟨(some 3), .mv (.t 20), none, 15⟩] false)
 (.ret))
 (.skip)))
 (.seq (.seq (.reg [⟨(some 21), .mv (.t 4), none, 0⟩,
 ⟨(some 22), .iaddr 7 (.t 21) (.c (.pv (.int .i64 (0)))), none, 1⟩,
 ⟨(some 23), .faddr (.t 22) 0, none, 3⟩,
 ⟨(some 24), .load false 1 (.t 23), none, 7⟩,
 ⟨(some 25), .bin .neq (.t 24) (.c (.pv (.int .i64 (12)))), none, 15⟩] false)
 (.cond (.t 25)
 (.seq (.reg [⟨(some 26), .faddr (.t 1) 0, none, 0⟩,
 ⟨(some 27), .load true 67 (.t 26), none, 1⟩,
 ⟨none, .store 67 (.t 2) (.t 27), none, 3⟩,
 ⟨(some 3), .mv (.c (.pv (.int .i64 (22)))), none, 7⟩] false)
 (.ret))
 (.skip)))
 (.seq (.reg [⟨(some 28), .load true 67 (.t 1), none, 0⟩,
 ⟨(some 29), .mv (.t 4), none, 0⟩,
 ⟨(some 30), .iaddr 7 (.t 29) (.c (.pv (.int .i64 (0)))), none, 2⟩,
 ⟨(some 31), .faddr (.t 30) 2, none, 6⟩,
 ⟨(some 32), .load false 1 (.t 31), none, 14⟩,
 ⟨(some 33), .call (.f n_save_keeper_find) [.t 28, .t 32], none, 31⟩,
 ⟨(some 6), .mv (.t 33), none, 63⟩] true)
 (.seq (.seq (.reg [⟨(some 34), .mv (.t 6), none, 0⟩,
 ⟨(some 35), .bin .lss (.t 34) (.c (.pv (.int .i64 (0)))), none, 1⟩] false)
 (.cond (.t 35)
 (.seq (.reg [⟨(some 36), .faddr (.t 1) 0, none, 0⟩,
 ⟨(some 37), .load true 67 (.t 36), none, 1⟩,
 ⟨none, .store 67 (.t 2) (.t 37), none, 3⟩,
 ⟨(some 3), .mv (.c (.pv (.int .i64 (34)))), none, 7⟩] false)
 (.ret))
 (.skip)))
 (.seq (.reg [⟨(some 38), .faddr (.t 1) 0, none, 0⟩,
 ⟨(some 39), .faddr (.t 38) 3, none, 1⟩,
 ⟨(some 40), .load false 1 (.t 39), none, 3⟩,
 ⟨(some 41), .mv (.t 6), none, 0⟩,
 ⟨(some 42), .iaddr 3 (.t 40) (.t 41), none, 15⟩,
 ⟨(some 43), .load true 3 (.t 42), none, 31⟩,
 ⟨(some 7), .alloc [.pv (.int .i64 (0)), .emp 7, .pv (.int .i64 (0))], none, 0⟩,
 ⟨none, .store 3 (.t 7) (.t 43), none, 127⟩] false)
 (.seq (.reg [⟨(some 44), .mkf (.func n_save_keeper_restore_1) [] [.t 7], none, 0⟩,
 ⟨(some 8), .mv (.t 44), none, 1⟩] false)
 (.seq (.reg [⟨(some 46), .faddr (.t 1) 0, none, 0⟩,
 ⟨(some 47), .load true 67 (.t 46), none, 1⟩,
 ⟨(some 48), .call (.f n_stack_Drop) [.t 47, .c (.pv (.int .i64 (1)))], none, 3⟩,
 ⟨(some 45), .mv (.t 48), none, 7⟩,
 ⟨(some 49), .extract (.t 45) 0, none, 15⟩,
 ⟨(some 50), .extract (.t 45) 1, none, 15⟩,
 ⟨(some 9), .alloc [.emp 7, .emp 7, .emp 7, .emp 3, .pv (.int .i64 (0)), .pv (.int .i64 (0)), .pv (.int .i64 (0)), .pv (.int .i64 (0)), .pv (.int .i64 (0)), .pv (.int .i64 (0)), .pv (.int .i64 (0)), .emp 7, .pv (.int .i64 (0)), .pv (.int .i64 (0)), .pv (.int .i64 (0)), .pv (.int .i64 (0)), .pv (.int .i64 (0)), .pv (.int .i64 (0)), .pv (.int .i64 (0)), .pv (.int .i64 (0)), .pv (.int .i64 (0)), .pv (.int .i64 (0)), .pv (.int .i64 (0)), .pv (.int .i64 (0)), .pv (.int .i64 (0)), .pv (.int .i64 (0)), .pv (.int .i64 (0)), .pv (.int .i64 (0)), .pv (.int .i64 (0)), .pv (.int .i64 (0)), .pv (.int .i64 (0)), .pv (.int .i64 (0)), .pv (.bool false), .pv (.bool false), .emp 47, .pv (.int .i64 (0)), .pv (.int .i64 (0)), .pv (.int .i64 (0)), .pv (.int .i64 (0)), .pv (.int .i64 (0)), .pv (.int .i64 (0)), .pv (.int .i64 (0)), .pv (.int .i64 (0)), .emp 1, .pv (.int .i64 (0)), .pv (.int .i64 (0)), .emp 2, .pv (.int .i64 (0)), .pv (.bool false), .pv (.int .i64 (0)), .pv (.str []), .pv (.int .i64 (0)), .pv (.int .i64 (0)), .pv (.int .i64 (0)), .pv (.int .i64 (0)), .pv (.int .i64 (0)), .pv (.int .i64 (0)), .pv (.int .i64 (0)), .pv (.int .i64 (0)), .pv (.int .i64 (0)), .pv (.int .i64 (0)), .pv (.int .i64 (0)), .emp 57, .emp 47, .emp 3, .pv (.str []), .pv (.int .i64 (0))], none, 0⟩,
 ⟨none, .store 67 (.t 9) (.t 49), none, 95⟩,
 ⟨(some 5), .mv (.t 50), none, 255⟩] false)
 (.seq (.seq (.reg [⟨(some 51), .mv (.t 5), none, 0⟩,
 ⟨(some 52), .bin .neq (.t 51) (.c (.pv (.int .i64 (0)))), none, 1⟩] false)
 (.cond (.t 52)
 (.seq (.reg [⟨(some 53), .faddr (.t 1) 0, none, 0⟩,
 ⟨(some 54), .load true 67 (.t 53), none, 1⟩,
 ⟨(some 55), .mv (.t 5), none, 0⟩,
 ⟨none, .store 67 (.t 2) (.t 54), none, 3⟩,
 ⟨(some 3), .mv (.t 55), none, 15⟩] false)
 (.ret))
 (.skip)))
 (.seq (.seq (.reg [⟨(some 56), .faddr (.t 9) 0, none, 0⟩,
 ⟨(some 57), .load false 1 (.t 56), none, 1⟩,
 ⟨(some 58), .mv (.t 8), none, 0⟩,
 ⟨(some 59), .call (.f n_save_some_Obj) [.t 57, .t 58], none, 7⟩,
 ⟨(some 60), .mv (.t 59), none, 15⟩,
 ⟨(some 61), .faddr (.t 9) 1, (some (60, false)), 31⟩,
 ⟨(some 62), .load false 1 (.t 61), (some (60, false)), 63⟩,
 ⟨(some 63), .mv (.t 8), (some (60, false)), 31⟩,
 ⟨(some 64), .call (.f n_save_some_Obj) [.t 62, .t 63], (some (60, false)), 255⟩,
 ⟨(some 65), .pick (.t 60) (.c (.pv (.bool true))) (.t 64), none, 511⟩] false)
 (.cond (.t 65)
 (.seq (.reg [⟨(some 66), .faddr (.t 1) 0, none, 0⟩,
 ⟨(some 67), .load true 67 (.t 66), none, 1⟩,
 ⟨none, .store 67 (.t 2) (.t 67), none, 3⟩,
 ⟨(some 3), .mv (.c (.pv (.int .i64 (34)))), none, 7⟩] false)
 (.ret))
 (.skip)))
 (.seq (.reg [⟨(some 68), .faddr (.t 7) 1, none, 0⟩,
 ⟨(some 69), .load false 1 (.t 68), none, 1⟩,
 ⟨(some 70), .faddr (.t 9) 3, none, 0⟩,
 ⟨(some 71), .load false 1 (.t 70), none, 4⟩,
 ⟨(some 72), .mv (.t 6), none, 0⟩,
 ⟨(some 73), .mv (.t 6), none, 0⟩,
 ⟨(some 74), .slice 3 (.t 71) none (some (.t 72)) (some (.t 73)), none, 60⟩,
 ⟨(some 75), .faddr (.t 9) 2, none, 15⟩,
 ⟨none, .store 1 (.t 75) (.t 69), none, 143⟩,
 ⟨(some 76), .faddr (.t 9) 3, none, 511⟩,
 ⟨none, .store 1 (.t 76) (.t 74), none, 1023⟩] true)
 (.seq (.seq (.reg [⟨(some 77), .faddr (.t 7) 2, none, 0⟩,
 ⟨(some 78), .load false 1 (.t 77), none, 1⟩,
 ⟨(some 79), .bin .geq (.t 78) (.c (.pv (.int .i64 (0)))), none, 3⟩,
 ⟨(some 80), .mv (.t 79), none, 7⟩,
 ⟨(some 81), .faddr (.t 7) 2, (some (80, true)), 15⟩,
 ⟨(some 82), .load false 1 (.t 81), (some (80, true)), 31⟩,
 ⟨(some 83), .faddr (.t 9) 62, (some (80, true)), 15⟩,
 ⟨(some 84), .load false 1 (.t 83), (some (80, true)), 79⟩,
 ⟨(some 85), .slen (.t 84), (some (80, true)), 207⟩,
 ⟨(some 86), .bin .lss (.t 82) (.t 85), (some (80, true)), 511⟩,
 ⟨(some 87), .pick (.t 80) (.t 86) (.c (.pv (.bool false))), none, 1023⟩] false)
 (.cond (.t 87)
 (.reg [⟨(some 88), .faddr (.t 9) 62, none, 0⟩,
 ⟨(some 89), .load false 1 (.t 88), none, 1⟩,
 ⟨(some 90), .faddr (.t 7) 2, none, 0⟩,
 ⟨(some 91), .load false 1 (.t 90), none, 4⟩,
 ⟨(some 92), .iaddr 57 (.t 89) (.t 91), none, 15⟩,
 ⟨(some 93), .load true 57 (.t 92), none, 31⟩,
 ⟨(some 94), .faddr (.t 9) 62, none, 0⟩,
 ⟨(some 95), .load false 1 (.t 94), none, 64⟩,
 ⟨(some 96), .faddr (.t 7) 2, none, 0⟩,
 ⟨(some 97), .load false 1 (.t 96), none, 256⟩,
 ⟨(some 98), .faddr (.t 7) 2, none, 0⟩,
 ⟨(some 99), .load false 1 (.t 98), none, 1024⟩,
 ⟨(some 100), .slice 57 (.t 95) none (some (.t 97)) (some (.t 99)), none, 4032⟩,
 ⟨(some 101), .faddr (.t 9) 5, none, 255⟩,
 ⟨none, .store 57 (.t 101) (.t 93), none, 8447⟩,
 ⟨(some 102), .faddr (.t 9) 62, none, 32767⟩,
 ⟨none, .store 1 (.t 102) (.t 100), none, 65535⟩] true)
 (.skip)))
 (.seq (.reg [⟨(some 103), .load true 67 (.t 9), none, 0⟩,
 ⟨none, .store 67 (.t 2) (.t 103), none, 1⟩,
 ⟨(some 3), .mv (.c (.pv (.int .i64 (0)))), none, 3⟩] false)
 (.ret))))))))))))))⟩
def c_save_keeper_vmstatus : RFn := ⟨1, 31, [.cell 2 true 67, .tmp 3],
 .seq (.reg [⟨(some 1), .box 67 (.t 0), none, 0⟩,
 ⟨(some 2), .alloc [.emp 7, .emp 7, .emp 7, .emp 3, .pv (.int .i64 (0)), .pv (.int .i64 (0)), .pv (.int .i64 (0)), .pv (.int .i64 (0)), .pv (.int .i64 (0)), .pv (.int .i64 (0)), .pv (.int .i64 (0)), .emp 7, .pv (.int .i64 (0)), .pv (.int .i64 (0)), .pv (.int .i64 (0)), .pv (.int .i64 (0)), .pv (.int .i64 (0)), .pv (.int .i64 (0)), .pv (.int .i64 (0)), .pv (.int .i64 (0)), .pv (.int .i64 (0)), .pv (.int .i64 (0)), .pv (.int .i64 (0)), .pv (.int .i64 (0)), .pv (.int .i64 (0)), .pv (.int .i64 (0)), .pv (.int .i64 (0)), .pv (.int .i64 (0)), .pv (.int .i64 (0)), .pv (.int .i64 (0)), .pv (.int .i64 (0)), .pv (.int .i64 (0)), .pv (.bool false), .pv (.bool false), .emp 47, .pv (.int .i64 (0)), .pv (.int .i64 (0)), .pv (.int .i64 (0)), .pv (.int .i64 (0)), .pv (.int .i64 (0)), .pv (.int .i64 (0)), .pv (.int .i64 (0)), .pv (.int .i64 (0)), .emp 1, .pv (.int .i64 (0)), .pv (.int .i64 (0)), .emp 2, .pv (.int .i64 (0)), .pv (.bool false), .pv (.int .i64 (0)), .pv (.str []), .pv (.int .i64 (0)), .pv (.int .i64 (0)), .pv (.int .i64 (0)), .pv (.int .i64 (0)), .pv (.int .i64 (0)), .pv (.int .i64 (0)), .pv (.int .i64 (0)), .pv (.int .i64 (0)), .pv (.int .i64 (0)), .pv (.int .i64 (0)), .pv (.int .i64 (0)), .emp 57, .emp 47, .emp 3, .pv (.str []), .pv (.int .i64 (0))], none, 0⟩,
 ⟨(some 3), .mv (.c (.pv (.int .i64 (0)))), none, 0⟩] false)
 (.seq (.reg [⟨(some 4), .mv (.c (.emp 7)), none, 0⟩] false)
 (.seq (.seq (.reg [⟨(some 7), .faddr (.t 1) 0, none, 0⟩,
 ⟨(some 8), .faddr (.t 7) 3, none, 1⟩,
 ⟨(some 9), .load false 1 (.t 8), none, 3⟩,
 ⟨(some 10), .slen (.t 9), none, 7⟩,
 ⟨(some 11), .faddr (.t 1) 0, none, 0⟩,
 ⟨(some 12), .faddr (.t 11) 2, none, 16⟩,
 ⟨(some 13), .load false 1 (.t 12), none, 48⟩,
 ⟨(some 14), .call (.f n_heap_Total) [.t 13], none, 112⟩,
 ⟨(some 15), .build [.pv (.int .i64 (0)), .pv (.int .i64 (0)), .pv (.int .i64 (0))] [(0, 1, .t 10), (1, 1, .t 14), (2, 1, .c (.pv (.int .i64 (20000))))], none, 255⟩,
 ⟨(some 16), .mv (.c (.pv (.int .i64 (0)))), none, 0⟩] true)
 (.block 0
 (.loop [1, 2, 4, 15, 16]
 (.seq (.reg [⟨(some 17), .bin .lss (.t 16) (.c (.pv (.int .i64 (3)))), none, 0⟩] false)
 (.seq (.cond (.t 17)
 (.skip)
 (.exit 0))
 (.seq (.block 1
 (.seq (.reg [⟨(some 18), .index false 3 1 (.t 15) (.t 16), none, 0⟩,
 ⟨(some 6), .mv (.t 18), none, 1⟩] false)
 (.reg [⟨(some 19), .mv (.t 4), none, 0⟩,
 ⟨(some 20), .mv (.t 6), none, 0⟩,
 ⟨(some 21), .build [.pv (.int .i64 (0)), .pv (.bool false), .pv (.int .i64 (0)), .pv (.str []), .pv (.int .i64 (0)), .pv (.int .i64 (0)), .pv (.int .i64 (0))] [(0, 1, .c (.pv (.int .i64 (3)))), (2, 1, .t 20)], none, 2⟩,
 ⟨(some 22), .bsl 7 1 [.pv (.int .i64 (0)), .pv (.bool false), .pv (.int .i64 (0)), .pv (.str []), .pv (.int .i64 (0)), .pv (.int .i64 (0)), .pv (.int .i64 (0))] [(0, .t 21)], none, 6⟩,
 ⟨(some 23), .append 7 64 (.t 19) (.t 22), none, 15⟩,
 ⟨(some 4), .mv (.t 23), none, 31⟩] false)))
 (.reg [⟨(some 24), .bin .add (.t 16) (.c (.pv (.int .i64 (1)))), none, 0⟩,
 ⟨(some 16), .mv (.t 24), none, 1⟩] false)))))))
 (.seq (.reg [⟨(some 25), .faddr (.t 1) 0, none, 0⟩,
 ⟨(some 26), .load true 67 (.t 25), none, 1⟩,
 ⟨(some 27), .mv (.t 4), none, 0⟩,
 ⟨(some 28), .call (.f n_stack_Push) [.t 26, .t 27], none, 7⟩,
 ⟨(some 29), .extract (.t 28) 0, none, 15⟩,
 ⟨(some 30), .extract (.t 28) 1, none, 15⟩,
 ⟨none, .store 67 (.t 2) (.t 29), none, 63⟩,
 ⟨(some 3), .mv (.t 30), none, 127⟩] false)
 (.ret))))⟩
def c_ref11_sameObjs : RFn := ⟨2, 26, [.tmp 4],
 .seq (.reg [⟨(some 4), .mv (.c (.pv (.bool false))), none, 0⟩] false)
 (.seq (.seq (.reg [⟨(some 6), .mv (.t 0), none, 0⟩,
 ⟨(some 7), .slen (.t 6), none, 1⟩,
 ⟨(some 8), .mv (.t 1), none, 0⟩,
 ⟨(some 9), .slen (.t 8), none, 4⟩,
 ⟨(some 10), .bin .neq (.t 7) (.t 9), none, 15⟩] false)
 (.cond (.t 10)
 (.seq (.reg [⟨(some 4), .mv (.c (.pv (.bool false))), none, 0⟩] false)
 (.ret))
 (.skip)))
 (.seq (.seq (.reg [⟨(some 5), .mv (.c (.pv (.int .i64 (0)))), none, 0⟩] false)
 (.block 0
 (.loop [0, 1, 5]
 (.seq (.seq (.reg [⟨(some 11), .mv (.t 5), none, 0⟩,
 ⟨(some 12), .mv (.t 0), none, 0⟩,
 ⟨(some 13), .slen (.t 12), none, 2⟩,
 ⟨(some 14), .bin .lss (.t 11) (.t 13), none, 7⟩] false)
 (.cond (.t 14)
 (.skip)
 (.exit 0)))
 (.seq (.block 1
 (.seq (.reg [⟨(some 17), .mv (.t 0), none, 0⟩,
 ⟨(some 18), .mv (.t 5), none, 0⟩,
 ⟨(some 19), .iaddr 7 (.t 17) (.t 18), none, 3⟩,
 ⟨(some 20), .load true 7 (.t 19), none, 7⟩,
 ⟨(some 21), .mv (.t 1), none, 0⟩,
 ⟨(some 22), .mv (.t 5), none, 0⟩,
 ⟨(some 23), .iaddr 7 (.t 21) (.t 22), none, 48⟩,
 ⟨(some 24), .load true 7 (.t 23), none, 112⟩,
 ⟨(some 25), .eqs true [0, 1, 0, 2, 0, 0, 0] (.t 20) (.t 24), none, 255⟩] true)
 (.cond (.t 25)
 (.seq (.reg [⟨(some 4), .mv (.c (.pv (.bool false))), none, 0⟩] false)
 (.ret))
 (.skip))))
 (.reg [⟨(some 15), .mv (.t 5), none, 0⟩,
 ⟨(some 16), .bin .add (.t 15) (.c (.pv (.int .i64 (1)))), none, 1⟩,
 ⟨(some 5), .mv (.t 16), none, 3⟩] false))))))
 (.seq (.reg [⟨(some 4), .mv (.c (.pv (.bool true))), none, 0⟩] false)
 (.ret))))⟩
def c_save_keeper_find : RFn := ⟨2, 18, [.tmp 4],
 .seq (.reg [⟨(some 2), .box 67 (.t 0), none, 0⟩,
 ⟨(some 3), .box 1 (.t 1), none, 0⟩,
 ⟨(some 4), .mv (.c (.pv (.int .i64 (0)))), none, 0⟩] false)
 (.scope
 (.seq (.reg [⟨(some 5), .alloc [.pv (.int .i64 (0))], none, 0⟩,
 ⟨none, .store 1 (.t 5) (.c (.pv (.int .i64 (-1)))), none, 1⟩] false)
 (.seq (.skip)
 (.seq (.seq (.reg [⟨(some 8), .load true 67 (.t 2), none, 0⟩,
 ⟨(some 9), .call (.f n_save_keeper_saves) [.t 8], none, 1⟩] false)
 (.block 0
 (.rng (.t 9) [10, 11]
 (.seq (.reg [⟨(some 6), .mv (.t 10), none, 0⟩] false)
 (.reg [⟨(some 7), .alloc [.pv (.int .i64 (0)), .emp 7, .pv (.int .i64 (0))], none, 0⟩,
 ⟨none, .store 3 (.t 7) (.t 11), none, 1⟩] false))
 (.block 1
 (.seq (.reg [⟨(some 12), .faddr (.t 7) 0, none, 0⟩,
 ⟨(some 13), .load false 1 (.t 12), none, 1⟩,
 ⟨(some 14), .load false 1 (.t 3), none, 0⟩,
 ⟨(some 15), .bin .eql (.t 13) (.t 14), none, 7⟩] false)
 (.cond (.t 15)
 (.seq (.reg [⟨(some 16), .mv (.t 6), none, 0⟩,
 ⟨none, .store 1 (.t 5) (.t 16), none, 1⟩] false)
 (.exit 0))
 (.skip)))))))
 (.seq (.reg [⟨(some 17), .load false 1 (.t 5), none, 0⟩,
 ⟨(some 4), .mv (.t 17), none, 1⟩] false)
 (.ret))))))⟩
def c_object_Check : RFn := ⟨1, 30, [.tmp 2],
 .seq (.reg [⟨(some 1), .box 7 (.t 0), none, 0⟩,
 ⟨(some 2), .mv (.c (.pv (.int .i64 (0)))), none, 0⟩] false)
 (.scope
 (.seq (.seq (.reg [⟨(some 7), .faddr (.t 1) 0, none, 0⟩,
 ⟨(some 8), .load false 1 (.t 7), none, 1⟩,
 ⟨(some 9), .bin .lss (.t 8) (.c (.pv (.int .i64 (0)))), none, 3⟩,
 ⟨(some 10), .mv (.t 9), none, 7⟩,
 ⟨(some 11), .faddr (.t 1) 0, (some (10, false)), 15⟩,
 ⟨(some 12), .load false 1 (.t 11), (some (10, false)), 31⟩,
 ⟨(some 13), .bin .geq (.t 12) (.c (.pv (.int .i64 (13)))), (some (10, false)), 63⟩,
 ⟨(some 14), .pick (.t 10) (.c (.pv (.bool true))) (.t 13), none, 127⟩] false)
 (.cond (.t 14)
 (.seq (.reg [⟨(some 2), .mv (.c (.pv (.int .i64 (200)))), none, 0⟩] false)
 (.ret))
 (.skip)))
 (.seq (.reg [⟨(some 15), .call (.f n_object_kinds) [], none, 0⟩,
 ⟨(some 16), .faddr (.t 1) 0, none, 0⟩,
 ⟨(some 17), .load false 1 (.t 16), none, 2⟩,
 ⟨(some 18), .index true 13 6 (.t 15) (.t 17), none, 7⟩,
 ⟨(some 3), .alloc [.pv (.str []), .pv (.int .i64 (0)), .pv (.int .i64 (0)), .pv (.int .i64 (0)), .pv (.int .i64 (0)), .pv (.int .i64 (0))], none, 0⟩,
 ⟨none, .store 6 (.t 3) (.t 18), none, 31⟩] true)
 (.seq (.reg [⟨(some 4), .mv (.c (.pv (.int .i64 (0)))), none, 0⟩] false)
 (.seq (.skip)
 (.seq (.seq (.reg [⟨(some 19), .build [.pv .nilFunc, .pv .nilFunc, .pv .nilFunc] [(0, 1, .f n_object_kind_number), (1, 1, .f n_object_kind_named), (2, 1, .f n_object_kind_referring)], none, 0⟩,
 ⟨(some 20), .mv (.c (.pv (.int .i64 (0)))), none, 0⟩] false)
 (.block 0
 (.loop [1, 3, 4, 19, 20]
 (.seq (.reg [⟨(some 21), .bin .lss (.t 20) (.c (.pv (.int .i64 (3)))), none, 0⟩] false)
 (.seq (.cond (.t 21)
 (.skip)
 (.exit 0))
 (.seq (.block 1
 (.seq (.reg [⟨(some 22), .index false 3 1 (.t 19) (.t 20), none, 0⟩,
 ⟨(some 6), .mv (.t 22), none, 1⟩] false)
 (.seq (.reg [⟨(some 23), .mv (.t 6), none, 0⟩,
 ⟨(some 24), .load true 6 (.t 3), none, 0⟩,
 ⟨(some 25), .load true 7 (.t 1), none, 0⟩,
 ⟨(some 26), .call (.t 23) [.t 24, .t 25], none, 7⟩,
 ⟨(some 27), .not (.t 26), none, 15⟩] false)
 (.cond (.t 27)
 (.seq (.reg [⟨(some 4), .mv (.c (.pv (.int .i64 (200)))), none, 0⟩] false)
 (.exit 0))
 (.skip)))))
 (.reg [⟨(some 28), .bin .add (.t 20) (.c (.pv (.int .i64 (1)))), none, 0⟩,
 ⟨(some 20), .mv (.t 28), none, 1⟩] false)))))))
 (.seq (.reg [⟨(some 29), .mv (.t 4), none, 0⟩,
 ⟨(some 2), .mv (.t 29), none, 1⟩] false)
 (.ret))))))))⟩
def c_heap_cellKind : RFn := ⟨1, 6, [.tmp 2],
 .seq (.reg [⟨(some 2), .mv (.c (.pv (.int .i64 (0)))), none, 0⟩] false)
 (.seq (.reg [⟨(some 3), .build [.pv (.int .i64 (0)), .pv (.int .i64 (0)), .pv (.int .i64 (0)), .pv (.int .i64 (0)), .pv (.int .i64 (0)), .pv (.int .i64 (0)), .pv (.int .i64 (0)), .pv (.int .i64 (0)), .pv (.int .i64 (0)), .pv (.int .i64 (0)), .pv (.int .i64 (0)), .pv (.int .i64 (0)), .pv (.int .i64 (0)), .pv (.int .i64 (0))] [(6, 1, .c (.pv (.int .i64 (1)))), (7, 1, .c (.pv (.int .i64 (2)))), (8, 1, .c (.pv (.int .i64 (2)))), (9, 1, .c (.pv (.int .i64 (3)))), (11, 1, .c (.pv (.int .i64 (4)))), (13, 1, .c (.pv (.int .i64 (0))))], none, 0⟩,
 ⟨(some 4), .mv (.t 0), none, 0⟩,
 ⟨(some 5), .index false 14 1 (.t 3) (.t 4), none, 3⟩,
 ⟨(some 2), .mv (.t 5), none, 7⟩] false)
 (.ret))⟩
def c_heap_length : RFn := ⟨1, 12, [.tmp 2],
 .seq (.reg [⟨(some 1), .box 7 (.t 0), none, 0⟩,
 ⟨(some 2), .mv (.c (.pv (.int .i64 (0)))), none, 0⟩] false)
 (.seq (.seq (.reg [⟨(some 3), .faddr (.t 1) 0, none, 0⟩,
 ⟨(some 4), .load false 1 (.t 3), none, 1⟩,
 ⟨(some 5), .bin .eql (.t 4) (.c (.pv (.int .i64 (1)))), none, 3⟩] false)
 (.cond (.t 5)
 (.seq (.reg [⟨(some 6), .faddr (.t 1) 1, none, 0⟩,
 ⟨(some 7), .load false 1 (.t 6), none, 1⟩,
 ⟨(some 8), .strlen (.t 7), none, 3⟩,
 ⟨(some 2), .mv (.t 8), none, 7⟩] false)
 (.ret))
 (.skip)))
 (.seq (.reg [⟨(some 9), .faddr (.t 1) 2, none, 0⟩,
 ⟨(some 10), .load false 1 (.t 9), none, 1⟩,
 ⟨(some 11), .slen (.t 10), none, 3⟩,
 ⟨(some 2), .mv (.t 11), none, 7⟩] false)
 (.ret)))⟩
def c_ref11_First : RFn := ⟨1, 89, [.tmp 2],
 .seq (.reg [⟨(some 2), .mv (.c (.emp 7)), none, 0⟩] false)
 (.seq (.reg [⟨(some 7), .call (.f n_ref11_dict) [.c (.pv (.int .i64 (200)))], none, 0⟩,
 ⟨(some 8), .call (.f n_ref11_dict) [.c (.pv (.int .i64 (50)))], none, 1⟩,
 ⟨(some 9), .call (.f n_ref11_dict) [.c (.pv (.int .i64 (30)))], none, 3⟩,
 ⟨(some 10), .call (.f n_ref11_dict) [.c (.pv (.int .i64 (12)))], none, 7⟩,
 ⟨(some 11), .call (.f n_ref11_dict) [.c (.pv (.int .i64 (5)))], none, 15⟩,
 ⟨(some 12), .bsl 7 5 [.pv (.int .i64 (0)), .pv (.str []), .emp 7, .emp 7, .emp 7, .pv (.int .i64 (0)), .pv (.int .i64 (0))] [(0, .t 7), (1, .t 8), (2, .t 9), (3, .t 10), (4, .t 11)], none, 31⟩,
 ⟨(some 3), .mv (.t 12), none, 63⟩] false)
 (.seq (.seq (.reg [⟨(some 4), .mv (.c (.pv (.int .i64 (0)))), none, 0⟩] false)
 (.block 0
 (.loop [0, 3, 4]
 (.seq (.seq (.reg [⟨(some 13), .mv (.t 4), none, 0⟩,
 ⟨(some 14), .mv (.t 0), none, 0⟩,
 ⟨(some 15), .slen (.t 14), none, 2⟩,
 ⟨(some 16), .bin .lss (.t 13) (.t 15), none, 7⟩,
 ⟨(some 17), .mv (.t 16), none, 15⟩,
 ⟨(some 18), .mv (.t 4), (some (17, true)), 31⟩,
 ⟨(some 19), .bin .lss (.t 18) (.c (.pv (.int .i64 (200)))), (some (17, true)), 63⟩,
 ⟨(some 20), .pick (.t 17) (.t 19) (.c (.pv (.bool false))), none, 127⟩] false)
 (.cond (.t 20)
 (.skip)
 (.exit 0)))
 (.seq (.block 1
 (.seq (.reg [⟨(some 23), .mv (.t 3), none, 0⟩,
 ⟨(some 24), .mv (.t 3), none, 0⟩,
 ⟨(some 25), .iaddr 7 (.t 24) (.c (.pv (.int .i64 (0)))), none, 2⟩,
 ⟨(some 26), .faddr (.t 25) 3, none, 6⟩,
 ⟨(some 27), .load false 1 (.t 26), none, 14⟩,
 ⟨(some 28), .mv (.t 0), none, 0⟩,
 ⟨(some 29), .mv (.t 4), none, 0⟩,
 ⟨(some 30), .iaddr 1 (.t 28) (.t 29), none, 96⟩,
 ⟨(some 31), .load false 1 (.t 30), none, 224⟩,
 ⟨(some 32), .call (.f n_ref11_name) [.t 31], none, 480⟩,
 ⟨(some 33), .bsl 7 1 [.pv (.int .i64 (0)), .pv (.bool false), .pv (.int .i64 (0)), .pv (.str []), .pv (.int .i64 (0)), .pv (.int .i64 (0)), .pv (.int .i64 (0))] [(0, .t 32)], none, 992⟩,
 ⟨(some 34), .append 7 64 (.t 27) (.t 33), none, 2046⟩,
 ⟨(some 35), .iaddr 7 (.t 23) (.c (.pv (.int .i64 (0)))), none, 4095⟩,
 ⟨(some 36), .faddr (.t 35) 3, none, 8191⟩,
 ⟨none, .store 1 (.t 36) (.t 34), none, 16383⟩] true)
 (.reg [⟨(some 37), .mv (.t 3), none, 0⟩,
 ⟨(some 38), .mv (.t 3), none, 0⟩,
 ⟨(some 39), .iaddr 7 (.t 38) (.c (.pv (.int .i64 (0)))), none, 2⟩,
 ⟨(some 40), .faddr (.t 39) 4, none, 6⟩,
 ⟨(some 41), .load false 1 (.t 40), none, 14⟩,
 ⟨(some 42), .mv (.t 0), none, 0⟩,
 ⟨(some 43), .mv (.t 4), none, 0⟩,
 ⟨(some 44), .iaddr 1 (.t 42) (.t 43), none, 96⟩,
 ⟨(some 45), .load false 1 (.t 44), none, 224⟩,
 ⟨(some 46), .build [.pv (.int .i64 (0)), .pv (.bool false), .pv (.int .i64 (0)), .pv (.str []), .pv (.int .i64 (0)), .pv (.int .i64 (0)), .pv (.int .i64 (0))] [(0, 1, .c (.pv (.int .i64 (10)))), (1, 1, .c (.pv (.bool true))), (3, 1, .t 45)], none, 480⟩,
 ⟨(some 47), .bsl 7 1 [.pv (.int .i64 (0)), .pv (.bool false), .pv (.int .i64 (0)), .pv (.str []), .pv (.int .i64 (0)), .pv (.int .i64 (0)), .pv (.int .i64 (0))] [(0, .t 46)], none, 992⟩,
 ⟨(some 48), .append 7 64 (.t 41) (.t 47), none, 2046⟩,
 ⟨(some 49), .iaddr 7 (.t 37) (.c (.pv (.int .i64 (0)))), none, 4095⟩,
 ⟨(some 50), .faddr (.t 49) 4, none, 8191⟩,
 ⟨none, .store 1 (.t 50) (.t 48), none, 16383⟩] true)))
 (.reg [⟨(some 21), .mv (.t 4), none, 0⟩,
 ⟨(some 22), .bin .add (.t 21) (.c (.pv (.int .i64 (1)))), none, 1⟩,
 ⟨(some 4), .mv (.t 22), none, 3⟩] false))))))
 (.seq (.reg [⟨(some 51), .call (.f n_ref11_Categories) [], none, 0⟩,
 ⟨(some 5), .mv (.t 51), none, 1⟩] false)
 (.seq (.seq (.reg [⟨(some 6), .mv (.c (.pv (.int .i64 (0)))), none, 0⟩] false)
 (.block 2
 (.loop [3, 5, 6]
 (.seq (.seq (.reg [⟨(some 52), .mv (.t 6), none, 0⟩,
 ⟨(some 53), .mv (.t 5), none, 0⟩,
 ⟨(some 54), .slen (.t 53), none, 2⟩,
 ⟨(some 55), .bin .lss (.t 52) (.t 54), none, 7⟩] false)
 (.cond (.t 55)
 (.skip)
 (.exit 2)))
 (.seq (.block 3
 (.seq (.reg [⟨(some 58), .mv (.t 3), none, 0⟩,
 ⟨(some 59), .mv (.t 3), none, 0⟩,
 ⟨(some 60), .iaddr 7 (.t 59) (.c (.pv (.int .i64 (4)))), none, 2⟩,
 ⟨(some 61), .faddr (.t 60) 3, none, 6⟩,
 ⟨(some 62), .load false 1 (.t 61), none, 14⟩,
 ⟨(some 63), .mv (.t 5), none, 0⟩,
 ⟨(some 64), .mv (.t 6), none, 0⟩,
 ⟨(some 65), .iaddr 1 (.t 63) (.t 64), none, 96⟩,
 ⟨(some 66), .load false 1 (.t 65), none, 224⟩,
 ⟨(some 67), .call (.f n_ref11_name) [.t 66], none, 480⟩,
 ⟨(some 68), .bsl 7 1 [.pv (.int .i64 (0)), .pv (.bool false), .pv (.int .i64 (0)), .pv (.str []), .pv (.int .i64 (0)), .pv (.int .i64 (0)), .pv (.int .i64 (0))] [(0, .t 67)], none, 992⟩,
 ⟨(some 69), .append 7 64 (.t 62) (.t 68), none, 2046⟩,
 ⟨(some 70), .iaddr 7 (.t 58) (.c (.pv (.int .i64 (4)))), none, 4095⟩,
 ⟨(some 71), .faddr (.t 70) 3, none, 8191⟩,
 ⟨none, .store 1 (.t 71) (.t 69), none, 16383⟩] true)
 (.seq (.reg [⟨(some 72), .mv (.t 3), none, 0⟩,
 ⟨(some 73), .mv (.t 3), none, 0⟩,
 ⟨(some 74), .iaddr 7 (.t 73) (.c (.pv (.int .i64 (4)))), none, 2⟩,
 ⟨(some 75), .faddr (.t 74) 4, none, 6⟩,
 ⟨(some 76), .load false 1 (.t 75), none, 14⟩,
 ⟨(some 77), .mv (.t 6), none, 0⟩,
 ⟨(some 78), .bin .add (.c (.pv (.int .i64 (5)))) (.t 77), none, 32⟩,
 ⟨(some 79), .build [.pv (.int .i64 (0)), .pv (.bool false), .pv (.int .i64 (0)), .pv (.str []), .pv (.int .i64 (0)), .pv (.int .i64 (0)), .pv (.int .i64 (0))] [(0, 1, .c (.pv (.int .i64 (9)))), (4, 1, .t 78)], none, 96⟩,
 ⟨(some 80), .bsl 7 1 [.pv (.int .i64 (0)), .pv (.bool false), .pv (.int .i64 (0)), .pv (.str []), .pv (.int .i64 (0)), .pv (.int .i64 (0)), .pv (.int .i64 (0))] [(0, .t 79)], none, 224⟩,
 ⟨(some 81), .append 7 64 (.t 76) (.t 80), none, 510⟩,
 ⟨(some 82), .iaddr 7 (.t 72) (.c (.pv (.int .i64 (4)))), none, 1023⟩,
 ⟨(some 83), .faddr (.t 82) 4, none, 2047⟩,
 ⟨none, .store 1 (.t 83) (.t 81), none, 4095⟩] false)
 (.reg [⟨(some 84), .mv (.t 3), none, 0⟩,
 ⟨(some 85), .call (.f n_ref11_dict) [.c (.pv (.int .i64 (10)))], none, 0⟩,
 ⟨(some 86), .bsl 7 1 [.pv (.int .i64 (0)), .pv (.str []), .emp 7, .emp 7, .emp 7, .pv (.int .i64 (0)), .pv (.int .i64 (0))] [(0, .t 85)], none, 2⟩,
 ⟨(some 87), .append 7 112 (.t 84) (.t 86), none, 7⟩,
 ⟨(some 3), .mv (.t 87), none, 15⟩] false))))
 (.reg [⟨(some 56), .mv (.t 6), none, 0⟩,
 ⟨(some 57), .bin .add (.t 56) (.c (.pv (.int .i64 (1)))), none, 1⟩,
 ⟨(some 6), .mv (.t 57), none, 3⟩] false))))))
 (.seq (.reg [⟨(some 88), .mv (.t 3), none, 0⟩,
 ⟨(some 2), .mv (.t 88), none, 1⟩] false)
 (.ret))))))⟩
def c_ref11_dict : RFn := ⟨1, 5, [.cell 2 true 7],
 .seq (.reg [⟨(some 2), .alloc [.pv (.int .i64 (0)), .pv (.str []), .emp 7, .emp 7, .emp 7, .pv (.int .i64 (0)), .pv (.int .i64 (0))], none, 0⟩] false)
 (.seq (.reg [⟨(some 3), .mv (.t 0), none, 0⟩,
 ⟨(some 4), .build [.pv (.int .i64 (0)), .pv (.str []), .emp 7, .emp 7, .emp 7, .pv (.int .i64 (0)), .pv (.int .i64 (0))] [(0, 1, .c (.pv (.int .i64 (3)))), (5, 1, .t 3)], none, 1⟩,
 ⟨none, .store 7 (.t 2) (.t 4), none, 3⟩] false)
 (.ret))⟩
def c_ref11_name : RFn := ⟨1, 5, [.cell 2 true 7],
 .seq (.reg [⟨(some 2), .alloc [.pv (.int .i64 (0)), .pv (.bool false), .pv (.int .i64 (0)), .pv (.str []), .pv (.int .i64 (0)), .pv (.int .i64 (0)), .pv (.int .i64 (0))], none, 0⟩] false)
 (.seq (.reg [⟨(some 3), .mv (.t 0), none, 0⟩,
 ⟨(some 4), .build [.pv (.int .i64 (0)), .pv (.bool false), .pv (.int .i64 (0)), .pv (.str []), .pv (.int .i64 (0)), .pv (.int .i64 (0)), .pv (.int .i64 (0))] [(0, 1, .c (.pv (.int .i64 (5)))), (3, 1, .t 3)], none, 1⟩,
 ⟨none, .store 7 (.t 2) (.t 4), none, 3⟩] false)
 (.ret))⟩
def c_heap_viewOf : RFn := ⟨3, 23, [.cell 6 true 8, .tmp 7],
 .seq (.reg [⟨(some 4), .box 7 (.t 1), none, 0⟩,
 ⟨(some 6), .alloc [.emp 7, .pv (.int .i64 (0)), .pv (.bool false), .pv (.int .i64 (0)), .pv (.str []), .pv (.int .i64 (0)), .pv (.int .i64 (0)), .pv (.int .i64 (0))], none, 0⟩,
 ⟨(some 7), .mv (.c (.pv (.int .i64 (0)))), none, 0⟩] false)
 (.seq (.seq (.reg [⟨(some 8), .mv (.t 0), none, 0⟩,
 ⟨(some 9), .load true 7 (.t 4), none, 0⟩,
 ⟨(some 10), .call (.f n_heap_Fits) [.t 8, .t 9], none, 3⟩,
 ⟨(some 11), .not (.t 10), none, 7⟩] false)
 (.cond (.t 11)
 (.seq (.reg [⟨(some 12), .build [.emp 7, .pv (.int .i64 (0)), .pv (.bool false), .pv (.int .i64 (0)), .pv (.str []), .pv (.int .i64 (0)), .pv (.int .i64 (0)), .pv (.int .i64 (0))] [], none, 0⟩,
 ⟨none, .store 8 (.t 6) (.t 12), none, 1⟩,
 ⟨(some 7), .mv (.c (.pv (.int .i64 (2)))), none, 3⟩] false)
 (.ret))
 (.skip)))
 (.seq (.seq (.reg [⟨(some 13), .mv (.t 2), none, 0⟩,
 ⟨(some 14), .faddr (.t 4) 0, none, 0⟩,
 ⟨(some 15), .load false 1 (.t 14), none, 2⟩,
 ⟨(some 16), .call (.f n_slices_Contains_int) [.t 13, .t 15], none, 7⟩,
 ⟨(some 17), .not (.t 16), none, 15⟩] false)
 (.cond (.t 17)
 (.seq (.reg [⟨(some 18), .build [.emp 7, .pv (.int .i64 (0)), .pv (.bool false), .pv (.int .i64 (0)), .pv (.str []), .pv (.int .i64 (0)), .pv (.int .i64 (0)), .pv (.int .i64 (0))] [], none, 0⟩,
 ⟨none, .store 8 (.t 6) (.t 18), none, 1⟩,
 ⟨(some 7), .mv (.c (.pv (.int .i64 (22)))), none, 3⟩] false)
 (.ret))
 (.skip)))
 (.seq (.reg [⟨(some 19), .mv (.t 0), none, 0⟩,
 ⟨(some 20), .build [.emp 7] [(0, 1, .t 19)], none, 1⟩,
 ⟨(some 21), .load true 7 (.t 4), none, 0⟩,
 ⟨(some 22), .build [.emp 7, .pv (.int .i64 (0)), .pv (.bool false), .pv (.int .i64 (0)), .pv (.str []), .pv (.int .i64 (0)), .pv (.int .i64 (0)), .pv (.int .i64 (0))] [(0, 1, .t 20), (1, 7, .t 21)], none, 7⟩,
 ⟨none, .store 8 (.t 6) (.t 22), none, 15⟩,
 ⟨(some 7), .mv (.c (.pv (.int .i64 (0)))), none, 31⟩] false)
 (.ret))))⟩
def c_heap_view_room : RFn := ⟨3, 25, [.tmp 6],
 .seq (.reg [⟨(some 3), .box 8 (.t 0), none, 0⟩,
 ⟨(some 6), .mv (.c (.pv (.int .i64 (0)))), none, 0⟩] false)
 (.seq (.seq (.reg [⟨(some 7), .mv (.t 1), none, 0⟩,
 ⟨(some 8), .bin .lss (.t 7) (.c (.pv (.int .i64 (0)))), none, 1⟩,
 ⟨(some 9), .mv (.t 8), none, 3⟩,
 ⟨(some 10), .mv (.t 1), (some (9, false)), 7⟩,
 ⟨(some 11), .faddr (.t 3) 1, (some (9, false)), 7⟩,
 ⟨(some 12), .faddr (.t 11) 6, (some (9, false)), 23⟩,
 ⟨(some 13), .load false 1 (.t 12), (some (9, false)), 55⟩,
 ⟨(some 14), .bin .gtr (.t 10) (.t 13), (some (9, false)), 127⟩,
 ⟨(some 15), .pick (.t 9) (.c (.pv (.bool true))) (.t 14), none, 255⟩,
 ⟨(some 16), .mv (.t 15), none, 511⟩,
 ⟨(some 17), .mv (.t 2), (some (16, false)), 1023⟩,
 ⟨(some 18), .faddr (.t 3) 1, (some (16, false)), 1023⟩,
 ⟨(some 19), .faddr (.t 18) 6, (some (16, false)), 3071⟩,
 ⟨(some 20), .load false 1 (.t 19), (some (16, false)), 7167⟩,
 ⟨(some 21), .mv (.t 1), (some (16, false)), 1023⟩,
 ⟨(some 22), .bin .sub (.t 20) (.t 21), (some (16, false)), 31743⟩,
 ⟨(some 23), .bin .gtr (.t 17) (.t 22), (some (16, false)), 65535⟩,
 ⟨(some 24), .pick (.t 16) (.c (.pv (.bool true))) (.t 23), none, 131071⟩] false)
 (.cond (.t 24)
 (.seq (.reg [⟨(some 6), .mv (.c (.pv (.int .i64 (23)))), none, 0⟩] false)
 (.ret))
 (.skip)))
 (.seq (.reg [⟨(some 6), .mv (.c (.pv (.int .i64 (0)))), none, 0⟩] false)
 (.ret)))⟩
def c_heap_view_cell : RFn := ⟨1, 11, [.cell 2 true 7],
 .seq (.reg [⟨(some 1), .box 8 (.t 0), none, 0⟩,
 ⟨(some 2), .alloc [.pv (.int .i64 (0)), .pv (.str []), .emp 7, .emp 7, .emp 7, .pv (.int .i64 (0)), .pv (.int .i64 (0))], none, 0⟩] false)
 (.seq (.reg [⟨(some 3), .faddr (.t 1) 0, none, 0⟩,
 ⟨(some 4), .faddr (.t 3) 0, none, 1⟩,
 ⟨(some 5), .load false 1 (.t 4), none, 3⟩,
 ⟨(some 6), .faddr (.t 1) 1, none, 0⟩,
 ⟨(some 7), .faddr (.t 6) 4, none, 8⟩,
 ⟨(some 8), .load false 1 (.t 7), none, 24⟩,
 ⟨(some 9), .iaddr 7 (.t 5) (.t 8), none, 63⟩,
 ⟨(some 10), .load true 7 (.t 9), none, 127⟩,
 ⟨none, .store 7 (.t 2) (.t 10), none, 255⟩] false)
 (.ret))⟩
def c_heap_replaced_byte : RFn := ⟨3, 20, [.tmp 6],
 .seq (.reg [⟨(some 6), .mv (.c (.emp 1)), none, 0⟩] false)
 (.seq (.reg [⟨(some 8), .mv (.t 0), none, 0⟩,
 ⟨(some 9), .slen (.t 8), none, 1⟩,
 ⟨(some 10), .mksl 1 1 [.int .u8 (0)] (.t 9), none, 3⟩,
 ⟨(some 7), .mv (.t 10), none, 7⟩] false)
 (.seq (.reg [⟨(some 11), .mv (.t 7), none, 0⟩,
 ⟨(some 12), .mv (.t 0), none, 0⟩,
 ⟨(some 13), .copy 1 (.t 11) (.t 12), none, 3⟩] false)
 (.seq (.reg [⟨(some 14), .mv (.t 7), none, 0⟩,
 ⟨(some 15), .mv (.t 1), none, 0⟩,
 ⟨(some 16), .slice 1 (.t 14) (some (.t 15)) none none, none, 3⟩,
 ⟨(some 17), .mv (.t 2), none, 0⟩,
 ⟨(some 18), .copy 1 (.t 16) (.t 17), none, 15⟩] false)
 (.seq (.reg [⟨(some 19), .mv (.t 7), none, 0⟩,
 ⟨(some 6), .mv (.t 19), none, 1⟩] false)
 (.ret)))))⟩
def c_heap_view_with : RFn := ⟨2, 23, [.tmp 4],
 .seq (.reg [⟨(some 2), .box 8 (.t 0), none, 0⟩,
 ⟨(some 3), .box 7 (.t 1), none, 0⟩,
 ⟨(some 4), .mv (.c (.emp 7)), none, 0⟩] false)
 (.seq (.reg [⟨(some 6), .faddr (.t 2) 0, none, 0⟩,
 ⟨(some 7), .faddr (.t 6) 0, none, 1⟩,
 ⟨(some 8), .load false 1 (.t 7), none, 3⟩,
 ⟨(some 9), .slen (.t 8), none, 7⟩,
 ⟨(some 10), .mksl 7 112 [.int .i64 (0), .str [], .sl 7 [], .sl 7 [], .sl 7 [], .int .i64 (0), .int .i64 (0)] (.t 9), none, 15⟩,
 ⟨(some 5), .mv (.t 10), none, 31⟩] false)
 (.seq (.reg [⟨(some 11), .mv (.t 5), none, 0⟩,
 ⟨(some 12), .faddr (.t 2) 0, none, 0⟩,
 ⟨(some 13), .faddr (.t 12) 0, none, 2⟩,
 ⟨(some 14), .load false 1 (.t 13), none, 6⟩,
 ⟨(some 15), .copy 7 (.t 11) (.t 14), none, 15⟩] false)
 (.seq (.reg [⟨(some 16), .mv (.t 5), none, 0⟩,
 ⟨(some 17), .faddr (.t 2) 1, none, 0⟩,
 ⟨(some 18), .faddr (.t 17) 4, none, 2⟩,
 ⟨(some 19), .load false 1 (.t 18), none, 6⟩,
 ⟨(some 20), .load true 7 (.t 3), none, 0⟩,
 ⟨(some 21), .iaddr 7 (.t 16) (.t 19), none, 31⟩,
 ⟨none, .store 7 (.t 21) (.t 20), none, 63⟩] false)
 (.seq (.reg [⟨(some 22), .mv (.t 5), none, 0⟩,
 ⟨(some 4), .mv (.t 22), none, 1⟩] false)
 (.ret)))))⟩
def c_ref11_pick : RFn := ⟨3, 36, [.tmp 6],
 .seq (.reg [⟨(some 6), .mv (.c (.pv (.int .i64 (0)))), none, 0⟩] false)
 (.seq (.reg [⟨(some 7), .mv (.c (.emp 1)), none, 0⟩] false)
 (.seq (.seq (.reg [⟨(some 8), .mv (.c (.pv (.int .i64 (0)))), none, 0⟩] false)
 (.block 0
 (.loop [0, 1, 2, 7, 8]
 (.seq (.seq (.reg [⟨(some 9), .mv (.t 8), none, 0⟩,
 ⟨(some 10), .mv (.t 0), none, 0⟩,
 ⟨(some 11), .slen (.t 10), none, 2⟩,
 ⟨(some 12), .bin .lss (.t 9) (.t 11), none, 7⟩] false)
 (.cond (.t 12)
 (.skip)
 (.exit 0)))
 (.seq (.block 1
 (.seq (.reg [⟨(some 15), .mv (.t 0), none, 0⟩,
 ⟨(some 16), .mv (.t 8), none, 0⟩,
 ⟨(some 17), .iaddr 7 (.t 15) (.t 16), none, 3⟩,
 ⟨(some 18), .faddr (.t 17) 0, none, 7⟩,
 ⟨(some 19), .load false 1 (.t 18), none, 15⟩,
 ⟨(some 20), .mv (.t 1), none, 0⟩,
 ⟨(some 21), .bin .eql (.t 19) (.t 20), none, 63⟩] false)
 (.cond (.t 21)
 (.reg [⟨(some 22), .mv (.t 7), none, 0⟩,
 ⟨(some 23), .mv (.t 8), none, 0⟩,
 ⟨(some 24), .bsl 1 1 [.pv (.int .i64 (0))] [(0, .t 23)], none, 2⟩,
 ⟨(some 25), .append 1 8 (.t 22) (.t 24), none, 7⟩,
 ⟨(some 7), .mv (.t 25), none, 15⟩] false)
 (.skip))))
 (.reg [⟨(some 13), .mv (.t 8), none, 0⟩,
 ⟨(some 14), .bin .add (.t 13) (.c (.pv (.int .i64 (1)))), none, 1⟩,
 ⟨(some 8), .mv (.t 14), none, 3⟩] false))))))
 (.seq (.seq (.reg [⟨(some 26), .mv (.t 7), none, 0⟩,
 ⟨(some 27), .slen (.t 26), none, 1⟩,
 ⟨(some 28), .bin .eql (.t 27) (.c (.pv (.int .i64 (0)))), none, 3⟩] false)
 (.cond (.t 28)
 (.seq (.reg [⟨(some 6), .mv (.c (.pv (.int .i64 (-1)))), none, 0⟩] false)
 (.ret))
 (.skip)))
 (.seq (.reg [⟨(some 29), .mv (.t 7), none, 0⟩,
 ⟨(some 30), .mv (.t 2), none, 0⟩,
 ⟨(some 31), .mv (.t 7), none, 0⟩,
 ⟨(some 32), .slen (.t 31), none, 4⟩,
 ⟨(some 33), .bin .rem (.t 30) (.t 32), none, 14⟩,
 ⟨(some 34), .iaddr 1 (.t 29) (.t 33), none, 31⟩,
 ⟨(some 35), .load false 1 (.t 34), none, 63⟩,
 ⟨(some 6), .mv (.t 35), none, 127⟩] false)
 (.ret)))))⟩
def c_stack_Push : RFn := ⟨2, 27, [.cell 4 true 67, .tmp 5],
 .seq (.reg [⟨(some 2), .box 67 (.t 0), none, 0⟩,
 ⟨(some 4), .alloc [.emp 7, .emp 7, .emp 7, .emp 3, .pv (.int .i64 (0)), .pv (.int .i64 (0)), .pv (.int .i64 (0)), .pv (.int .i64 (0)), .pv (.int .i64 (0)), .pv (.int .i64 (0)), .pv (.int .i64 (0)), .emp 7, .pv (.int .i64 (0)), .pv (.int .i64 (0)), .pv (.int .i64 (0)), .pv (.int .i64 (0)), .pv (.int .i64 (0)), .pv (.int .i64 (0)), .pv (.int .i64 (0)), .pv (.int .i64 (0)), .pv (.int .i64 (0)), .pv (.int .i64 (0)), .pv (.int .i64 (0)), .pv (.int .i64 (0)), .pv (.int .i64 (0)), .pv (.int .i64 (0)), .pv (.int .i64 (0)), .pv (.int .i64 (0)), .pv (.int .i64 (0)), .pv (.int .i64 (0)), .pv (.int .i64 (0)), .pv (.int .i64 (0)), .pv (.bool false), .pv (.bool false), .emp 47, .pv (.int .i64 (0)), .pv (.int .i64 (0)), .pv (.int .i64 (0)), .pv (.int .i64 (0)), .pv (.int .i64 (0)), .pv (.int .i64 (0)), .pv (.int .i64 (0)), .pv (.int .i64 (0)), .emp 1, .pv (.int .i64 (0)), .pv (.int .i64 (0)), .emp 2, .pv (.int .i64 (0)), .pv (.bool false), .pv (.int .i64 (0)), .pv (.str []), .pv (.int .i64 (0)), .pv (.int .i64 (0)), .pv (.int .i64 (0)), .pv (.int .i64 (0)), .pv (.int .i64 (0)), .pv (.int .i64 (0)), .pv (.int .i64 (0)), .pv (.int .i64 (0)), .pv (.int .i64 (0)), .pv (.int .i64 (0)), .pv (.int .i64 (0)), .emp 57, .emp 47, .emp 3, .pv (.str []), .pv (.int .i64 (0))], none, 0⟩,
 ⟨(some 5), .mv (.c (.pv (.int .i64 (0)))), none, 0⟩] false)
 (.seq (.seq (.reg [⟨(some 6), .faddr (.t 2) 0, none, 0⟩,
 ⟨(some 7), .load false 1 (.t 6), none, 1⟩,
 ⟨(some 8), .slen (.t 7), none, 3⟩,
 ⟨(some 9), .mv (.t 1), none, 0⟩,
 ⟨(some 10), .slen (.t 9), none, 8⟩,
 ⟨(some 11), .bin .add (.t 8) (.t 10), none, 31⟩,
 ⟨(some 12), .bin .gtr (.t 11) (.c (.pv (.int .i64 (100)))), none, 63⟩] false)
 (.cond (.t 12)
 (.seq (.reg [⟨(some 13), .load true 67 (.t 2), none, 0⟩,
 ⟨none, .store 67 (.t 4) (.t 13), none, 1⟩,
 ⟨(some 5), .mv (.c (.pv (.int .i64 (21)))), none, 3⟩] false)
 (.ret))
 (.skip)))
 (.seq (.reg [⟨(some 14), .faddr (.t 2) 0, none, 0⟩,
 ⟨(some 15), .load false 1 (.t 14), none, 1⟩,
 ⟨(some 16), .faddr (.t 2) 0, none, 0⟩,
 ⟨(some 17), .load false 1 (.t 16), none, 4⟩,
 ⟨(some 18), .slen (.t 17), none, 12⟩,
 ⟨(some 19), .faddr (.t 2) 0, none, 0⟩,
 ⟨(some 20), .load false 1 (.t 19), none, 32⟩,
 ⟨(some 21), .slen (.t 20), none, 96⟩,
 ⟨(some 22), .slice 7 (.t 15) none (some (.t 18)) (some (.t 21)), none, 255⟩,
 ⟨(some 23), .mv (.t 1), none, 0⟩,
 ⟨(some 24), .append 7 64 (.t 22) (.t 23), none, 1023⟩,
 ⟨(some 25), .faddr (.t 2) 0, none, 2047⟩,
 ⟨none, .store 1 (.t 25) (.t 24), none, 4095⟩] false)
 (.seq (.reg [⟨(some 26), .load true 67 (.t 2), none, 0⟩,
 ⟨none, .store 67 (.t 4) (.t 26), none, 1⟩,
 ⟨(some 5), .mv (.c (.pv (.int .i64 (0)))), none, 3⟩] false)
 (.ret))))⟩
def c_stack_Top : RFn := ⟨2, 27, [.tmp 4, .tmp 5],
 .seq (.reg [⟨(some 2), .box 67 (.t 0), none, 0⟩,
 ⟨(some 4), .mv (.c (.emp 7)), none, 0⟩,
 ⟨(some 5), .mv (.c (.pv (.int .i64 (0)))), none, 2⟩] false)
 (.seq (.seq (.reg [⟨(some 6), .mv (.t 1), none, 0⟩,
 ⟨(some 7), .bin .lss (.t 6) (.c (.pv (.int .i64 (0)))), none, 1⟩] false)
 (.cond (.t 7)
 (.seq (.reg [⟨(some 4), .mv (.c (.emp 7)), none, 0⟩,
 ⟨(some 5), .mv (.c (.pv (.int .i64 (2)))), none, 1⟩] false)
 (.ret))
 (.skip)))
 (.seq (.seq (.reg [⟨(some 8), .mv (.t 1), none, 0⟩,
 ⟨(some 9), .faddr (.t 2) 0, none, 0⟩,
 ⟨(some 10), .load false 1 (.t 9), none, 2⟩,
 ⟨(some 11), .slen (.t 10), none, 6⟩,
 ⟨(some 12), .bin .gtr (.t 8) (.t 11), none, 15⟩] false)
 (.cond (.t 12)
 (.seq (.reg [⟨(some 4), .mv (.c (.emp 7)), none, 0⟩,
 ⟨(some 5), .mv (.c (.pv (.int .i64 (20)))), none, 1⟩] false)
 (.ret))
 (.skip)))
 (.seq (.reg [⟨(some 13), .faddr (.t 2) 0, none, 0⟩,
 ⟨(some 14), .load false 1 (.t 13), none, 1⟩,
 ⟨(some 15), .faddr (.t 2) 0, none, 0⟩,
 ⟨(some 16), .load false 1 (.t 15), none, 4⟩,
 ⟨(some 17), .slen (.t 16), none, 12⟩,
 ⟨(some 18), .mv (.t 1), none, 0⟩,
 ⟨(some 19), .bin .sub (.t 17) (.t 18), none, 60⟩,
 ⟨(some 20), .faddr (.t 2) 0, none, 0⟩,
 ⟨(some 21), .load false 1 (.t 20), none, 128⟩,
 ⟨(some 22), .slen (.t 21), none, 384⟩,
 ⟨(some 23), .faddr (.t 2) 0, none, 0⟩,
 ⟨(some 24), .load false 1 (.t 23), none, 1024⟩,
 ⟨(some 25), .slen (.t 24), none, 3072⟩,
 ⟨(some 26), .slice 7 (.t 14) (some (.t 19)) (some (.t 22)) (some (.t 25)), none, 8191⟩,
 ⟨(some 4), .mv (.t 26), none, 16383⟩,
 ⟨(some 5), .mv (.c (.pv (.int .i64 (0)))), none, 32767⟩] false)
 (.ret))))⟩
def c_save_keeper_restore_1 : RFn := ⟨2, 9, [.tmp 3],
 .seq (.reg [⟨(some 2), .box 7 (.t 0), none, 0⟩,
 ⟨(some 3), .mv (.c (.pv (.bool false))), none, 0⟩] false)
 (.seq (.reg [⟨(some 4), .load true 7 (.t 2), none, 0⟩,
 ⟨(some 5), .faddr (.t 1) 1, none, 0⟩,
 ⟨(some 6), .load false 1 (.t 5), none, 2⟩,
 ⟨(some 7), .slen (.t 6), none, 6⟩,
 ⟨(some 8), .call (.f n_save_Newer) [.t 4, .t 7], none, 15⟩,
 ⟨(some 3), .mv (.t 8), none, 31⟩] false)
 (.ret))⟩
def c_stack_Drop : RFn := ⟨2, 30, [.cell 4 true 67, .tmp 5],
 .seq (.reg [⟨(some 2), .box 67 (.t 0), none, 0⟩,
 ⟨(some 4), .alloc [.emp 7, .emp 7, .emp 7, .emp 3, .pv (.int .i64 (0)), .pv (.int .i64 (0)), .pv (.int .i64 (0)), .pv (.int .i64 (0)), .pv (.int .i64 (0)), .pv (.int .i64 (0)), .pv (.int .i64 (0)), .emp 7, .pv (.int .i64 (0)), .pv (.int .i64 (0)), .pv (.int .i64 (0)), .pv (.int .i64 (0)), .pv (.int .i64 (0)), .pv (.int .i64 (0)), .pv (.int .i64 (0)), .pv (.int .i64 (0)), .pv (.int .i64 (0)), .pv (.int .i64 (0)), .pv (.int .i64 (0)), .pv (.int .i64 (0)), .pv (.int .i64 (0)), .pv (.int .i64 (0)), .pv (.int .i64 (0)), .pv (.int .i64 (0)), .pv (.int .i64 (0)), .pv (.int .i64 (0)), .pv (.int .i64 (0)), .pv (.int .i64 (0)), .pv (.bool false), .pv (.bool false), .emp 47, .pv (.int .i64 (0)), .pv (.int .i64 (0)), .pv (.int .i64 (0)), .pv (.int .i64 (0)), .pv (.int .i64 (0)), .pv (.int .i64 (0)), .pv (.int .i64 (0)), .pv (.int .i64 (0)), .emp 1, .pv (.int .i64 (0)), .pv (.int .i64 (0)), .emp 2, .pv (.int .i64 (0)), .pv (.bool false), .pv (.int .i64 (0)), .pv (.str []), .pv (.int .i64 (0)), .pv (.int .i64 (0)), .pv (.int .i64 (0)), .pv (.int .i64 (0)), .pv (.int .i64 (0)), .pv (.int .i64 (0)), .pv (.int .i64 (0)), .pv (.int .i64 (0)), .pv (.int .i64 (0)), .pv (.int .i64 (0)), .pv (.int .i64 (0)), .emp 57, .emp 47, .emp 3, .pv (.str []), .pv (.int .i64 (0))], none, 0⟩,
 ⟨(some 5), .mv (.c (.pv (.int .i64 (0)))), none, 0⟩] false)
 (.seq (.seq (.reg [⟨(some 6), .mv (.t 1), none, 0⟩,
 ⟨(some 7), .bin .lss (.t 6) (.c (.pv (.int .i64 (0)))), none, 1⟩] false)
 (.cond (.t 7)
 (.seq (.reg [⟨(some 8), .load true 67 (.t 2), none, 0⟩,
 ⟨none, .store 67 (.t 4) (.t 8), none, 1⟩,
 ⟨(some 5), .mv (.c (.pv (.int .i64 (2)))), none, 3⟩] false)
 (.ret))
 (.skip)))
 (.seq (.seq (.reg [⟨(some 9), .mv (.t 1), none, 0⟩,
 ⟨(some 10), .faddr (.t 2) 0, none, 0⟩,
 ⟨(some 11), .load false 1 (.t 10), none, 2⟩,
 ⟨(some 12), .slen (.t 11), none, 6⟩,
 ⟨(some 13), .bin .gtr (.t 9) (.t 12), none, 15⟩] false)
 (.cond (.t 13)
 (.seq (.reg [⟨(some 14), .load true 67 (.t 2), none, 0⟩,
 ⟨none, .store 67 (.t 4) (.t 14), none, 1⟩,
 ⟨(some 5), .mv (.c (.pv (.int .i64 (20)))), none, 3⟩] false)
 (.ret))
 (.skip)))
 (.seq (.reg [⟨(some 15), .faddr (.t 2) 0, none, 0⟩,
 ⟨(some 16), .load false 1 (.t 15), none, 1⟩,
 ⟨(some 17), .faddr (.t 2) 0, none, 0⟩,
 ⟨(some 18), .load false 1 (.t 17), none, 4⟩,
 ⟨(some 19), .slen (.t 18), none, 12⟩,
 ⟨(some 20), .mv (.t 1), none, 0⟩,
 ⟨(some 21), .bin .sub (.t 19) (.t 20), none, 60⟩,
 ⟨(some 22), .faddr (.t 2) 0, none, 0⟩,
 ⟨(some 23), .load false 1 (.t 22), none, 128⟩,
 ⟨(some 24), .slen (.t 23), none, 384⟩,
 ⟨(some 25), .mv (.t 1), none, 0⟩,
 ⟨(some 26), .bin .sub (.t 24) (.t 25), none, 1920⟩,
 ⟨(some 27), .slice 7 (.t 16) none (some (.t 21)) (some (.t 26)), none, 4095⟩,
 ⟨(some 28), .faddr (.t 2) 0, none, 8191⟩,
 ⟨none, .store 1 (.t 28) (.t 27), none, 16383⟩] false)
 (.seq (.reg [⟨(some 29), .load true 67 (.t 2), none, 0⟩,
 ⟨none, .store 67 (.t 4) (.t 29), none, 1⟩,
 ⟨(some 5), .mv (.c (.pv (.int .i64 (0)))), none, 3⟩] false)
 (.ret)))))⟩
def c_save_some_Obj : RFn := ⟨2, 8, [.tmp 4],
 .seq (.reg [⟨(some 4), .mv (.c (.pv (.bool false))), none, 0⟩] false)
 (.seq (.reg [⟨(some 5), .mv (.t 0), none, 0⟩,
 ⟨(some 6), .mv (.t 1), none, 0⟩,
 ⟨(some 7), .call (.f n_slices_ContainsFunc_Obj) [.t 5, .t 6], none, 3⟩,
 ⟨(some 4), .mv (.t 7), none, 7⟩] false)
 (.ret))⟩
def c_save_keeper_saves : RFn := ⟨1, 4, [.tmp 2],
 .seq (.reg [⟨(some 1), .box 67 (.t 0), none, 0⟩,
 ⟨(some 2), .mv (.c (.pv .nilFunc)), none, 0⟩] false)
 (.seq (.reg [⟨(some 3), .mkf (.func n_save_keeper_saves_1) [] [.t 1], none, 0⟩,
 ⟨(some 2), .mv (.t 3), none, 1⟩] false)
 (.ret))⟩
def c_object_kinds : RFn := ⟨0, 15, [.cell 0 true 78],
 .seq (.reg [⟨(some 0), .alloc [.pv (.str []), .pv (.int .i64 (0)), .pv (.int .i64 (0)), .pv (.int .i64 (0)), .pv (.int .i64 (0)), .pv (.int .i64 (0)), .pv (.str []), .pv (.int .i64 (0)), .pv (.int .i64 (0)), .pv (.int .i64 (0)), .pv (.int .i64 (0)), .pv (.int .i64 (0)), .pv (.str []), .pv (.int .i64 (0)), .pv (.int .i64 (0)), .pv (.int .i64 (0)), .pv (.int .i64 (0)), .pv (.int .i64 (0)), .pv (.str []), .pv (.int .i64 (0)), .pv (.int .i64 (0)), .pv (.int .i64 (0)), .pv (.int .i64 (0)), .pv (.int .i64 (0)), .pv (.str []), .pv (.int .i64 (0)), .pv (.int .i64 (0)), .pv (.int .i64 (0)), .pv (.int .i64 (0)), .pv (.int .i64 (0)), .pv (.str []), .pv (.int .i64 (0)), .pv (.int .i64 (0)), .pv (.int .i64 (0)), .pv (.int .i64 (0)), .pv (.int .i64 (0)), .pv (.str []), .pv (.int .i64 (0)), .pv (.int .i64 (0)), .pv (.int .i64 (0)), .pv (.int .i64 (0)), .pv (.int .i64 (0)), .pv (.str []), .pv (.int .i64 (0)), .pv (.int .i64 (0)), .pv (.int .i64 (0)), .pv (.int .i64 (0)), .pv (.int .i64 (0)), .pv (.str []), .pv (.int .i64 (0)), .pv (.int .i64 (0)), .pv (.int .i64 (0)), .pv (.int .i64 (0)), .pv (.int .i64 (0)), .pv (.str []), .pv (.int .i64 (0)), .pv (.int .i64 (0)), .pv (.int .i64 (0)), .pv (.int .i64 (0)), .pv (.int .i64 (0)), .pv (.str []), .pv (.int .i64 (0)), .pv (.int .i64 (0)), .pv (.int .i64 (0)), .pv (.int .i64 (0)), .pv (.int .i64 (0)), .pv (.str []), .pv (.int .i64 (0)), .pv (.int .i64 (0)), .pv (.int .i64 (0)), .pv (.int .i64 (0)), .pv (.int .i64 (0)), .pv (.str []), .pv (.int .i64 (0)), .pv (.int .i64 (0)), .pv (.int .i64 (0)), .pv (.int .i64 (0)), .pv (.int .i64 (0))], none, 0⟩] false)
 (.seq (.reg [⟨(some 1), .build [.pv (.str []), .pv (.int .i64 (0)), .pv (.int .i64 (0)), .pv (.int .i64 (0)), .pv (.int .i64 (0)), .pv (.int .i64 (0))] [(0, 1, .c (.pv (.str [110, 117, 108, 108, 116, 121, 112, 101])))], none, 0⟩,
 ⟨(some 2), .build [.pv (.str []), .pv (.int .i64 (0)), .pv (.int .i64 (0)), .pv (.int .i64 (0)), .pv (.int .i64 (0)), .pv (.int .i64 (0))] [(0, 1, .c (.pv (.str [109, 97, 114, 107, 116, 121, 112, 101])))], none, 0⟩,
 ⟨(some 3), .build [.pv (.str []), .pv (.int .i64 (0)), .pv (.int .i64 (0)), .pv (.int .i64 (0)), .pv (.int .i64 (0)), .pv (.int .i64 (0))] [(0, 1, .c (.pv (.str [98, 111, 111, 108, 101, 97, 110, 116, 121, 112, 101]))), (2, 1, .c (.pv (.int .i64 (1))))], none, 0⟩,
 ⟨(some 4), .build [.pv (.str []), .pv (.int .i64 (0)), .pv (.int .i64 (0)), .pv (.int .i64 (0)), .pv (.int .i64 (0)), .pv (.int .i64 (0))] [(0, 1, .c (.pv (.str [105, 110, 116, 101, 103, 101, 114, 116, 121, 112, 101]))), (1, 1, .c (.pv (.int .i64 (-2147483648)))), (2, 1, .c (.pv (.int .i64 (2147483647))))], none, 0⟩,
 ⟨(some 5), .build [.pv (.str []), .pv (.int .i64 (0)), .pv (.int .i64 (0)), .pv (.int .i64 (0)), .pv (.int .i64 (0)), .pv (.int .i64 (0))] [(0, 1, .c (.pv (.str [114, 101, 97, 108, 116, 121, 112, 101]))), (1, 1, .c (.pv (.int .i64 (-2147483648)))), (2, 1, .c (.pv (.int .i64 (2147483648))))], none, 0⟩,
 ⟨(some 6), .build [.pv (.str []), .pv (.int .i64 (0)), .pv (.int .i64 (0)), .pv (.int .i64 (0)), .pv (.int .i64 (0)), .pv (.int .i64 (0))] [(0, 1, .c (.pv (.str [110, 97, 109, 101, 116, 121, 112, 101]))), (4, 1, .c (.pv (.int .i64 (100))))], none, 0⟩,
 ⟨(some 7), .build [.pv (.str []), .pv (.int .i64 (0)), .pv (.int .i64 (0)), .pv (.int .i64 (0)), .pv (.int .i64 (0)), .pv (.int .i64 (0))] [(0, 1, .c (.pv (.str [115, 116, 114, 105, 110, 103, 116, 121, 112, 101]))), (5, 1, .c (.pv (.int .i64 (1))))], none, 0⟩,
 ⟨(some 8), .build [.pv (.str []), .pv (.int .i64 (0)), .pv (.int .i64 (0)), .pv (.int .i64 (0)), .pv (.int .i64 (0)), .pv (.int .i64 (0))] [(0, 1, .c (.pv (.str [97, 114, 114, 97, 121, 116, 121, 112, 101]))), (5, 1, .c (.pv (.int .i64 (2))))], none, 0⟩,
 ⟨(some 9), .build [.pv (.str []), .pv (.int .i64 (0)), .pv (.int .i64 (0)), .pv (.int .i64 (0)), .pv (.int .i64 (0)), .pv (.int .i64 (0))] [(0, 1, .c (.pv (.str [112, 97, 99, 107, 101, 100, 97, 114, 114, 97, 121, 116, 121, 112, 101]))), (5, 1, .c (.pv (.int .i64 (2))))], none, 0⟩,
 ⟨(some 10), .build [.pv (.str []), .pv (.int .i64 (0)), .pv (.int .i64 (0)), .pv (.int .i64 (0)), .pv (.int .i64 (0)), .pv (.int .i64 (0))] [(0, 1, .c (.pv (.str [100, 105, 99, 116, 116, 121, 112, 101]))), (5, 1, .c (.pv (.int .i64 (3))))], none, 0⟩,
 ⟨(some 11), .build [.pv (.str []), .pv (.int .i64 (0)), .pv (.int .i64 (0)), .pv (.int .i64 (0)), .pv (.int .i64 (0)), .pv (.int .i64 (0))] [(0, 1, .c (.pv (.str [111, 112, 101, 114, 97, 116, 111, 114, 116, 121, 112, 101]))), (3, 1, .c (.pv (.int .i64 (1)))), (4, 1, .c (.pv (.int .i64 (100))))], none, 0⟩,
 ⟨(some 12), .build [.pv (.str []), .pv (.int .i64 (0)), .pv (.int .i64 (0)), .pv (.int .i64 (0)), .pv (.int .i64 (0)), .pv (.int .i64 (0))] [(0, 1, .c (.pv (.str [102, 105, 108, 101, 116, 121, 112, 101]))), (5, 1, .c (.pv (.int .i64 (3))))], none, 0⟩,
 ⟨(some 13), .build [.pv (.str []), .pv (.int .i64 (0)), .pv (.int .i64 (0)), .pv (.int .i64 (0)), .pv (.int .i64 (0)), .pv (.int .i64 (0))] [(0, 1, .c (.pv (.str [115, 97, 118, 101, 116, 121, 112, 101]))), (1, 1, .c (.pv (.int .i64 (1)))), (2, 1, .c (.pv (.int .i64 (9223372036854775807))))], none, 0⟩,
 ⟨(some 14), .build [.pv (.str []), .pv (.int .i64 (0)), .pv (.int .i64 (0)), .pv (.int .i64 (0)), .pv (.int .i64 (0)), .pv (.int .i64 (0)), .pv (.str []), .pv (.int .i64 (0)), .pv (.int .i64 (0)), .pv (.int .i64 (0)), .pv (.int .i64 (0)), .pv (.int .i64 (0)), .pv (.str []), .pv (.int .i64 (0)), .pv (.int .i64 (0)), .pv (.int .i64 (0)), .pv (.int .i64 (0)), .pv (.int .i64 (0)), .pv (.str []), .pv (.int .i64 (0)), .pv (.int .i64 (0)), .pv (.int .i64 (0)), .pv (.int .i64 (0)), .pv (.int .i64 (0)), .pv (.str []), .pv (.int .i64 (0)), .pv (.int .i64 (0)), .pv (.int .i64 (0)), .pv (.int .i64 (0)), .pv (.int .i64 (0)), .pv (.str []), .pv (.int .i64 (0)), .pv (.int .i64 (0)), .pv (.int .i64 (0)), .pv (.int .i64 (0)), .pv (.int .i64 (0)), .pv (.str []), .pv (.int .i64 (0)), .pv (.int .i64 (0)), .pv (.int .i64 (0)), .pv (.int .i64 (0)), .pv (.int .i64 (0)), .pv (.str []), .pv (.int .i64 (0)), .pv (.int .i64 (0)), .pv (.int .i64 (0)), .pv (.int .i64 (0)), .pv (.int .i64 (0)), .pv (.str []), .pv (.int .i64 (0)), .pv (.int .i64 (0)), .pv (.int .i64 (0)), .pv (.int .i64 (0)), .pv (.int .i64 (0)), .pv (.str []), .pv (.int .i64 (0)), .pv (.int .i64 (0)), .pv (.int .i64 (0)), .pv (.int .i64 (0)), .pv (.int .i64 (0)), .pv (.str []), .pv (.int .i64 (0)), .pv (.int .i64 (0)), .pv (.int .i64 (0)), .pv (.int .i64 (0)), .pv (.int .i64 (0)), .pv (.str []), .pv (.int .i64 (0)), .pv (.int .i64 (0)), .pv (.int .i64 (0)), .pv (.int .i64 (0)), .pv (.int .i64 (0)), .pv (.str []), .pv (.int .i64 (0)), .pv (.int .i64 (0)), .pv (.int .i64 (0)), .pv (.int .i64 (0)), .pv (.int .i64 (0))] [(0, 6, .t 1), (6, 6, .t 2), (12, 6, .t 3), (18, 6, .t 4), (24, 6, .t 5), (30, 6, .t 6), (36, 6, .t 7), (42, 6, .t 8), (48, 6, .t 9), (54, 6, .t 10), (60, 6, .t 11), (66, 6, .t 12), (72, 6, .t 13)], none, 8191⟩,
 ⟨none, .store 78 (.t 0) (.t 14), none, 16383⟩] false)
 (.ret))⟩
def c_object_kind_number : RFn := ⟨2, 17, [.tmp 4],
 .seq (.reg [⟨(some 2), .box 6 (.t 0), none, 0⟩,
 ⟨(some 3), .box 7 (.t 1), none, 0⟩,
 ⟨(some 4), .mv (.c (.pv (.bool false))), none, 0⟩] false)
 (.seq (.reg [⟨(some 5), .faddr (.t 3) 2, none, 0⟩,
 ⟨(some 6), .load false 1 (.t 5), none, 1⟩,
 ⟨(some 7), .faddr (.t 2) 1, none, 0⟩,
 ⟨(some 8), .load false 1 (.t 7), none, 4⟩,
 ⟨(some 9), .bin .geq (.t 6) (.t 8), none, 15⟩,
 ⟨(some 10), .mv (.t 9), none, 31⟩,
 ⟨(some 11), .faddr (.t 3) 2, (some (10, true)), 63⟩,
 ⟨(some 12), .load false 1 (.t 11), (some (10, true)), 127⟩,
 ⟨(some 13), .faddr (.t 2) 2, (some (10, true)), 63⟩,
 ⟨(some 14), .load false 1 (.t 13), (some (10, true)), 319⟩,
 ⟨(some 15), .bin .leq (.t 12) (.t 14), (some (10, true)), 1023⟩,
 ⟨(some 16), .pick (.t 10) (.t 15) (.c (.pv (.bool false))), none, 2047⟩,
 ⟨(some 4), .mv (.t 16), none, 4095⟩] false)
 (.ret))⟩
def c_object_kind_named : RFn := ⟨2, 19, [.tmp 4],
 .seq (.reg [⟨(some 2), .box 6 (.t 0), none, 0⟩,
 ⟨(some 3), .box 7 (.t 1), none, 0⟩,
 ⟨(some 4), .mv (.c (.pv (.bool false))), none, 0⟩] false)
 (.seq (.reg [⟨(some 5), .faddr (.t 3) 3, none, 0⟩,
 ⟨(some 6), .load false 1 (.t 5), none, 1⟩,
 ⟨(some 7), .strlen (.t 6), none, 3⟩,
 ⟨(some 8), .faddr (.t 2) 3, none, 0⟩,
 ⟨(some 9), .load false 1 (.t 8), none, 8⟩,
 ⟨(some 10), .bin .geq (.t 7) (.t 9), none, 31⟩,
 ⟨(some 11), .mv (.t 10), none, 63⟩,
 ⟨(some 12), .faddr (.t 3) 3, (some (11, true)), 127⟩,
 ⟨(some 13), .load false 1 (.t 12), (some (11, true)), 255⟩,
 ⟨(some 14), .strlen (.t 13), (some (11, true)), 511⟩,
 ⟨(some 15), .faddr (.t 2) 4, (some (11, true)), 127⟩,
 ⟨(some 16), .load false 1 (.t 15), (some (11, true)), 1151⟩,
 ⟨(some 17), .bin .leq (.t 14) (.t 16), (some (11, true)), 4095⟩,
 ⟨(some 18), .pick (.t 11) (.t 17) (.c (.pv (.bool false))), none, 8191⟩,
 ⟨(some 4), .mv (.t 18), none, 16383⟩] false)
 (.ret))⟩
def c_object_kind_referring : RFn := ⟨2, 57, [.tmp 4],
 .seq (.reg [⟨(some 2), .box 6 (.t 0), none, 0⟩,
 ⟨(some 3), .box 7 (.t 1), none, 0⟩,
 ⟨(some 4), .mv (.c (.pv (.bool false))), none, 0⟩] false)
 (.seq (.seq (.reg [⟨(some 6), .faddr (.t 2) 5, none, 0⟩,
 ⟨(some 7), .load false 1 (.t 6), none, 1⟩,
 ⟨(some 8), .bin .eql (.t 7) (.c (.pv (.int .i64 (0)))), none, 3⟩] false)
 (.cond (.t 8)
 (.seq (.reg [⟨(some 9), .faddr (.t 3) 4, none, 0⟩,
 ⟨(some 10), .load false 1 (.t 9), none, 1⟩,
 ⟨(some 11), .bin .eql (.t 10) (.c (.pv (.int .i64 (0)))), none, 3⟩,
 ⟨(some 12), .mv (.t 11), none, 7⟩,
 ⟨(some 13), .faddr (.t 3) 5, (some (12, true)), 15⟩,
 ⟨(some 14), .load false 1 (.t 13), (some (12, true)), 31⟩,
 ⟨(some 15), .bin .eql (.t 14) (.c (.pv (.int .i64 (0)))), (some (12, true)), 63⟩,
 ⟨(some 16), .pick (.t 12) (.t 15) (.c (.pv (.bool false))), none, 127⟩,
 ⟨(some 17), .mv (.t 16), none, 255⟩,
 ⟨(some 18), .faddr (.t 3) 6, (some (17, true)), 511⟩,
 ⟨(some 19), .load false 1 (.t 18), (some (17, true)), 1023⟩,
 ⟨(some 20), .bin .eql (.t 19) (.c (.pv (.int .i64 (0)))), (some (17, true)), 2047⟩,
 ⟨(some 21), .pick (.t 17) (.t 20) (.c (.pv (.bool false))), none, 4095⟩,
 ⟨(some 4), .mv (.t 21), none, 8191⟩] false)
 (.ret))
 (.skip)))
 (.seq (.reg [⟨(some 22), .load true 6 (.t 2), none, 0⟩,
 ⟨(some 23), .call (.f n_object_kind_longest) [.t 22], none, 1⟩,
 ⟨(some 5), .mv (.t 23), none, 3⟩] false)
 (.seq (.reg [⟨(some 24), .faddr (.t 3) 4, none, 0⟩,
 ⟨(some 25), .load false 1 (.t 24), none, 1⟩,
 ⟨(some 26), .bin .geq (.t 25) (.c (.pv (.int .i64 (0)))), none, 3⟩,
 ⟨(some 27), .mv (.t 26), none, 7⟩,
 ⟨(some 28), .faddr (.t 3) 4, (some (27, true)), 15⟩,
 ⟨(some 29), .load false 1 (.t 28), (some (27, true)), 31⟩,
 ⟨(some 30), .bin .leq (.t 29) (.c (.pv (.int .i64 (20000)))), (some (27, true)), 63⟩,
 ⟨(some 31), .pick (.t 27) (.t 30) (.c (.pv (.bool false))), none, 127⟩,
 ⟨(some 32), .mv (.t 31), none, 255⟩,
 ⟨(some 33), .faddr (.t 3) 5, (some (32, true)), 511⟩,
 ⟨(some 34), .load false 1 (.t 33), (some (32, true)), 1023⟩,
 ⟨(some 35), .bin .geq (.t 34) (.c (.pv (.int .i64 (0)))), (some (32, true)), 2047⟩,
 ⟨(some 36), .pick (.t 32) (.t 35) (.c (.pv (.bool false))), none, 4095⟩,
 ⟨(some 37), .mv (.t 36), none, 8191⟩,
 ⟨(some 38), .faddr (.t 3) 6, (some (37, true)), 16383⟩,
 ⟨(some 39), .load false 1 (.t 38), (some (37, true)), 32767⟩,
 ⟨(some 40), .bin .geq (.t 39) (.c (.pv (.int .i64 (0)))), (some (37, true)), 65535⟩,
 ⟨(some 41), .pick (.t 37) (.t 40) (.c (.pv (.bool false))), none, 131071⟩,
 ⟨(some 42), .mv (.t 41), none, 262143⟩,
 ⟨(some 43), .faddr (.t 3) 5, (some (42, true)), 524287⟩,
 ⟨(some 44), .load false 1 (.t 43), (some (42, true)), 1048575⟩,
 ⟨(some 45), .mv (.t 5), (some (42, true)), 524287⟩,
 ⟨(some 46), .bin .leq (.t 44) (.t 45), (some (42, true)), 4194303⟩,
 ⟨(some 47), .pick (.t 42) (.t 46) (.c (.pv (.bool false))), none, 8388607⟩,
 ⟨(some 48), .mv (.t 47), none, 16777215⟩,
 ⟨(some 49), .faddr (.t 3) 6, (some (48, true)), 33554431⟩,
 ⟨(some 50), .load false 1 (.t 49), (some (48, true)), 67108863⟩,
 ⟨(some 51), .mv (.t 5), (some (48, true)), 33554431⟩,
 ⟨(some 52), .faddr (.t 3) 5, (some (48, true)), 33554431⟩,
 ⟨(some 53), .load false 1 (.t 52), (some (48, true)), 301989887⟩,
 ⟨(some 54), .bin .sub (.t 51) (.t 53), (some (48, true)), 973078527⟩,
 ⟨(some 55), .bin .leq (.t 50) (.t 54), (some (48, true)), 2147483647⟩,
 ⟨(some 56), .pick (.t 48) (.t 55) (.c (.pv (.bool false))), none, 4294967295⟩,
 ⟨(some 4), .mv (.t 56), none, 8589934591⟩] false)
 (.ret))))⟩
def c_slices_Contains_int : RFn := ⟨2, 9, [.tmp 4],
 .seq (.reg [⟨(some 4), .mv (.c (.pv (.bool false))), none, 0⟩] false)
 (.seq (.reg [⟨(some 5), .mv (.t 0), none, 0⟩,
 ⟨(some 6), .mv (.t 1), none, 0⟩,
 ⟨(some 7), .call (.f n_slices_Index_int) [.t 5, .t 6], none, 3⟩,
 ⟨(some 8), .bin .geq (.t 7) (.c (.pv (.int .i64 (0)))), none, 7⟩,
 ⟨(some 4), .mv (.t 8), none, 15⟩] false)
 (.ret))⟩
def c_slices_ContainsFunc_Obj : RFn := ⟨2, 9, [.tmp 4],
 .seq (.reg [⟨(some 4), .mv (.c (.pv (.bool false))), none, 0⟩] false)
 (.seq (.reg [⟨(some 5), .mv (.t 0), none, 0⟩,
 ⟨(some 6), .mv (.t 1), none, 0⟩,
 ⟨(some 7), .call (.f n_slices_IndexFunc_Obj) [.t 5, .t 6], none, 3⟩,
 ⟨(some 8), .bin .geq (.t 7) (.c (.pv (.int .i64 (0)))), none, 7⟩,
 ⟨(some 4), .mv (.t 8), none, 15⟩] false)
 (.ret))⟩
def c_save_keeper_saves_1 : RFn := ⟨2, 20, [],
 .seq (.reg [⟨(some 5), .faddr (.t 1) 0, none, 0⟩,
 ⟨(some 6), .faddr (.t 5) 3, none, 1⟩,
 ⟨(some 7), .load false 1 (.t 6), none, 3⟩,
 ⟨(some 8), .slen (.t 7), none, 7⟩,
 ⟨(some 9), .mv (.c (.pv (.int .i64 (0)))), none, 0⟩] false)
 (.block 0
 (.loop [0, 7, 8, 9]
 (.seq (.reg [⟨(some 10), .bin .lss (.t 9) (.t 8), none, 0⟩] false)
 (.seq (.cond (.t 10)
 (.skip)
 (.exit 0))
 (.seq (.block 1
 (.seq (.reg [⟨(some 11), .mv (.t 9), none, 0⟩,
 ⟨(some 12), .iaddr 3 (.t 7) (.t 9), none, 0⟩,
 ⟨(some 13), .load true 3 (.t 12), none, 2⟩,
 ⟨(some 4), .alloc [.pv (.int .i64 (0)), .emp 7, .pv (.int .i64 (0))], none, 0⟩,
 ⟨(some 3), .mv (.t 11), none, 15⟩,
 ⟨none, .store 3 (.t 4) (.t 13), none, 31⟩] false)
 (.seq (.reg [⟨(some 14), .mv (.t 0), none, 0⟩,
 ⟨(some 15), .mv (.t 3), none, 0⟩,
 ⟨(some 16), .load true 3 (.t 4), none, 0⟩,
 ⟨(some 17), .call (.t 14) [.t 15, .t 16], none, 7⟩,
 ⟨(some 18), .not (.t 17), none, 15⟩] false)
 (.cond (.t 18)
 (.ret)
 (.skip)))))
 (.reg [⟨(some 19), .bin .add (.t 9) (.c (.pv (.int .i64 (1)))), none, 0⟩,
 ⟨(some 9), .mv (.t 19), none, 1⟩] false))))))⟩
def c_object_kind_longest : RFn := ⟨1, 7, [.tmp 2],
 .seq (.reg [⟨(some 1), .box 6 (.t 0), none, 0⟩,
 ⟨(some 2), .mv (.c (.pv (.int .i64 (0)))), none, 0⟩] false)
 (.seq (.reg [⟨(some 3), .build [.pv (.int .i64 (0)), .pv (.int .i64 (0)), .pv (.int .i64 (0)), .pv (.int .i64 (0))] [(0, 1, .c (.pv (.int .i64 (0)))), (1, 1, .c (.pv (.int .i64 (1000)))), (2, 1, .c (.pv (.int .i64 (1000)))), (3, 1, .c (.pv (.int .i64 (0))))], none, 0⟩,
 ⟨(some 4), .faddr (.t 1) 5, none, 0⟩,
 ⟨(some 5), .load false 1 (.t 4), none, 2⟩,
 ⟨(some 6), .index false 4 1 (.t 3) (.t 5), none, 7⟩,
 ⟨(some 2), .mv (.t 6), none, 15⟩] false)
 (.ret))⟩
def c_slices_Index_int : RFn := ⟨2, 19, [.tmp 4],
 .seq (.reg [⟨(some 4), .mv (.c (.pv (.int .i64 (0)))), none, 0⟩] false)
 (.seq (.seq (.reg [⟨(some 6), .mv (.t 0), none, 0⟩,
 ⟨(some 7), .slen (.t 6), none, 1⟩,
 ⟨(some 8), .mv (.c (.pv (.int .i64 (0)))), none, 0⟩] false)
 (.block 0
 (.loop [0, 1, 7, 8]
 (.seq (.reg [⟨(some 9), .bin .lss (.t 8) (.t 7), none, 0⟩] false)
 (.seq (.cond (.t 9)
 (.skip)
 (.exit 0))
 (.seq (.block 1
 (.seq (.reg [⟨(some 10), .mv (.t 8), none, 0⟩,
 ⟨(some 5), .mv (.t 10), none, 1⟩] false)
 (.seq (.reg [⟨(some 11), .mv (.t 1), none, 0⟩,
 ⟨(some 12), .mv (.t 0), none, 0⟩,
 ⟨(some 13), .mv (.t 5), none, 0⟩,
 ⟨(some 14), .iaddr 1 (.t 12) (.t 13), none, 6⟩,
 ⟨(some 15), .load false 1 (.t 14), none, 14⟩,
 ⟨(some 16), .bin .eql (.t 11) (.t 15), none, 31⟩] false)
 (.cond (.t 16)
 (.seq (.reg [⟨(some 17), .mv (.t 5), none, 0⟩,
 ⟨(some 4), .mv (.t 17), none, 1⟩] false)
 (.ret))
 (.skip)))))
 (.reg [⟨(some 18), .bin .add (.t 8) (.c (.pv (.int .i64 (1)))), none, 0⟩,
 ⟨(some 8), .mv (.t 18), none, 1⟩] false)))))))
 (.seq (.reg [⟨(some 4), .mv (.c (.pv (.int .i64 (-1)))), none, 0⟩] false)
 (.ret)))⟩
def c_slices_IndexFunc_Obj : RFn := ⟨2, 19, [.tmp 4],
 .seq (.reg [⟨(some 4), .mv (.c (.pv (.int .i64 (0)))), none, 0⟩] false)
 (.seq (.seq (.reg [⟨(some 6), .mv (.t 0), none, 0⟩,
 ⟨(some 7), .slen (.t 6), none, 1⟩,
 ⟨(some 8), .mv (.c (.pv (.int .i64 (0)))), none, 0⟩] false)
 (.block 0
 (.loop [0, 1, 7, 8]
 (.seq (.reg [⟨(some 9), .bin .lss (.t 8) (.t 7), none, 0⟩] false)
 (.seq (.cond (.t 9)
 (.skip)
 (.exit 0))
 (.seq (.block 1
 (.seq (.reg [⟨(some 10), .mv (.t 8), none, 0⟩,
 ⟨(some 5), .mv (.t 10), none, 1⟩] false)
 (.seq (.reg [⟨(some 11), .mv (.t 1), none, 0⟩,
 ⟨(some 12), .mv (.t 0), none, 0⟩,
 ⟨(some 13), .mv (.t 5), none, 0⟩,
 ⟨(some 14), .iaddr 7 (.t 12) (.t 13), none, 6⟩,
 ⟨(some 15), .load true 7 (.t 14), none, 14⟩,
 ⟨(some 16), .call (.t 11) [.t 15], none, 31⟩] false)
 (.cond (.t 16)
 (.seq (.reg [⟨(some 17), .mv (.t 5), none, 0⟩,
 ⟨(some 4), .mv (.t 17), none, 1⟩] false)
 (.ret))
 (.skip)))))
 (.reg [⟨(some 18), .bin .add (.t 8) (.c (.pv (.int .i64 (1)))), none, 0⟩,
 ⟨(some 8), .mv (.t 18), none, 1⟩] false)))))))
 (.seq (.reg [⟨(some 4), .mv (.c (.pv (.int .i64 (-1)))), none, 0⟩] false)
 (.ret)))⟩
end Go.Ab.Td
