/- The code of functions of the program, printed by a program. Under: nothing. -/
import Derived.Test.YtdmfppodbpfbpaaAb41
namespace Go.Ab.Rk
open Go.Ab
def c5 : RFn := ⟨0, 240, [.tmp 0],
 .seq (.reg [⟨(some 0), .mv (.c (.pv (.bool false))), none, 0⟩] false)
 (.seq (.seq (.reg [⟨(some 16), .call (.f 17) [], none, 0⟩,
   ⟨(some 17), .not (.t 16), none, 1⟩] false)
 (.cond (.t 17)
  (.seq (.reg [⟨(some 0), .mv (.c (.pv (.bool false))), none, 0⟩] false)
  (.ret))
  (.skip)))
 (.seq (.reg [⟨(some 1), .mv (.f 18), none, 0⟩] false)
 (.seq (.reg [⟨(some 19), .call (.f 21) [.c (.pv (.str [70]))], none, 0⟩,
   ⟨(some 20), .call (.f 22) [.c (.pv (.int .i64 (10)))], none, 1⟩,
   ⟨(some 21), .call (.f 21) [.c (.pv (.str [70, 111, 110, 116]))], none, 3⟩,
   ⟨(some 22), .bsl 7 3 [.pv (.int .i64 (0)), .pv (.bool false), .pv (.int .i64 (0)), .pv (.str []), .pv (.int .i64 (0)), .pv (.int .i64 (0)), .pv (.int .i64 (0))] [(0, .t 19), (1, .t 20), (2, .t 21)], none, 7⟩,
   ⟨(some 23), .call (.f 20) [.t 22], none, 15⟩,
   ⟨(some 24), .call (.f 19) [.t 23, .c (.pv (.str [100, 101, 102, 105, 110, 101, 114, 101, 115, 111, 117, 114, 99, 101]))], none, 31⟩,
   ⟨(some 18), .mv (.t 24), none, 63⟩,
   ⟨(some 25), .extract (.t 18) 0, none, 127⟩,
   ⟨(some 26), .extract (.t 18) 1, none, 127⟩,
   ⟨(some 2), .alloc [.emp 7, .emp 7, .emp 7, .emp 3, .pv (.int .i64 (0)), .pv (.int .i64 (0)), .pv (.int .i64 (0)), .pv (.int .i64 (0)), .pv (.int .i64 (0)), .pv (.int .i64 (0)), .pv (.int .i64 (0)), .emp 7, .pv (.int .i64 (0)), .pv (.int .i64 (0)), .pv (.int .i64 (0)), .pv (.int .i64 (0)), .pv (.int .i64 (0)), .pv (.int .i64 (0)), .pv (.int .i64 (0)), .pv (.int .i64 (0)), .pv (.int .i64 (0)), .pv (.int .i64 (0)), .pv (.int .i64 (0)), .pv (.int .i64 (0)), .pv (.int .i64 (0)), .pv (.int .i64 (0)), .pv (.int .i64 (0)), .pv (.int .i64 (0)), .pv (.int .i64 (0)), .pv (.int .i64 (0)), .pv (.int .i64 (0)), .pv (.int .i64 (0)), .pv (.bool false), .pv (.bool false), .emp 47, .pv (.int .i64 (0)), .pv (.int .i64 (0)), .pv (.int .i64 (0)), .pv (.int .i64 (0)), .pv (.int .i64 (0)), .pv (.int .i64 (0)), .pv (.int .i64 (0)), .pv (.int .i64 (0)), .emp 1, .pv (.int .i64 (0)), .pv (.int .i64 (0)), .emp 2, .pv (.int .i64 (0)), .pv (.bool false), .pv (.int .i64 (0)), .pv (.str []), .pv (.int .i64 (0)), .pv (.int .i64 (0)), .pv (.int .i64 (0)), .pv (.int .i64 (0)), .pv (.int .i64 (0)), .pv (.int .i64 (0)), .pv (.int .i64 (0)), .pv (.int .i64 (0)), .pv (.int .i64 (0)), .pv (.int .i64 (0)), .pv (.int .i64 (0)), .emp 57, .emp 47, .emp 3, .pv (.str []), .pv (.int .i64 (0))], none, 0⟩,
   ⟨none, .store 67 (.t 2) (.t 25), none, 767⟩,
   ⟨(some 3), .mv (.t 26), none, 2047⟩] false)
 (.seq (.reg [⟨(some 28), .load true 67 (.t 2), none, 0⟩,
   ⟨(some 29), .call (.f 21) [.c (.pv (.str [70]))], none, 0⟩,
   ⟨(some 30), .call (.f 21) [.c (.pv (.str [70, 111, 110, 116]))], none, 2⟩,
   ⟨(some 31), .bsl 7 2 [.pv (.int .i64 (0)), .pv (.bool false), .pv (.int .i64 (0)), .pv (.str []), .pv (.int .i64 (0)), .pv (.int .i64 (0)), .pv (.int .i64 (0))] [(0, .t 29), (1, .t 30)], none, 6⟩,
   ⟨(some 32), .call (.f 23) [.t 28, .t 31], none, 15⟩,
   ⟨(some 33), .call (.f 19) [.t 32, .c (.pv (.str [117, 110, 100, 101, 102, 105, 110, 101, 114, 101, 115, 111, 117, 114, 99, 101]))], none, 31⟩,
   ⟨(some 27), .mv (.t 33), none, 63⟩,
   ⟨(some 34), .extract (.t 27) 0, none, 127⟩,
   ⟨(some 35), .extract (.t 27) 1, none, 127⟩,
   ⟨(some 4), .alloc [.emp 7, .emp 7, .emp 7, .emp 3, .pv (.int .i64 (0)), .pv (.int .i64 (0)), .pv (.int .i64 (0)), .pv (.int .i64 (0)), .pv (.int .i64 (0)), .pv (.int .i64 (0)), .pv (.int .i64 (0)), .emp 7, .pv (.int .i64 (0)), .pv (.int .i64 (0)), .pv (.int .i64 (0)), .pv (.int .i64 (0)), .pv (.int .i64 (0)), .pv (.int .i64 (0)), .pv (.int .i64 (0)), .pv (.int .i64 (0)), .pv (.int .i64 (0)), .pv (.int .i64 (0)), .pv (.int .i64 (0)), .pv (.int .i64 (0)), .pv (.int .i64 (0)), .pv (.int .i64 (0)), .pv (.int .i64 (0)), .pv (.int .i64 (0)), .pv (.int .i64 (0)), .pv (.int .i64 (0)), .pv (.int .i64 (0)), .pv (.int .i64 (0)), .pv (.bool false), .pv (.bool false), .emp 47, .pv (.int .i64 (0)), .pv (.int .i64 (0)), .pv (.int .i64 (0)), .pv (.int .i64 (0)), .pv (.int .i64 (0)), .pv (.int .i64 (0)), .pv (.int .i64 (0)), .pv (.int .i64 (0)), .emp 1, .pv (.int .i64 (0)), .pv (.int .i64 (0)), .emp 2, .pv (.int .i64 (0)), .pv (.bool false), .pv (.int .i64 (0)), .pv (.str []), .pv (.int .i64 (0)), .pv (.int .i64 (0)), .pv (.int .i64 (0)), .pv (.int .i64 (0)), .pv (.int .i64 (0)), .pv (.int .i64 (0)), .pv (.int .i64 (0)), .pv (.int .i64 (0)), .pv (.int .i64 (0)), .pv (.int .i64 (0)), .pv (.int .i64 (0)), .emp 57, .emp 47, .emp 3, .pv (.str []), .pv (.int .i64 (0))], none, 0⟩,
   ⟨none, .store 67 (.t 4) (.t 34), none, 767⟩,
   ⟨(some 5), .mv (.t 35), none, 2047⟩] true)
 (.seq (.seq (.reg [⟨(some 36), .mv (.t 3), none, 0⟩,
   ⟨(some 37), .bin .neq (.t 36) (.c (.pv (.int .i64 (0)))), none, 1⟩,
   ⟨(some 38), .mv (.t 37), none, 3⟩,
   ⟨(some 39), .mv (.t 5), (some (38, false)), 7⟩,
   ⟨(some 40), .bin .neq (.t 39) (.c (.pv (.int .i64 (0)))), (some (38, false)), 15⟩,
   ⟨(some 41), .pick (.t 38) (.c (.pv (.bool true))) (.t 40), none, 31⟩] false)
 (.cond (.t 41)
  (.seq (.reg [⟨(some 0), .mv (.c (.pv (.bool false))), none, 0⟩] false)
  (.ret))
  (.skip)))
 (.seq (.reg [⟨(some 42), .call (.f 20) [.c (.emp 7)], none, 0⟩,
   ⟨(some 6), .alloc [.emp 7, .emp 7, .emp 7, .emp 3, .pv (.int .i64 (0)), .pv (.int .i64 (0)), .pv (.int .i64 (0)), .pv (.int .i64 (0)), .pv (.int .i64 (0)), .pv (.int .i64 (0)), .pv (.int .i64 (0)), .emp 7, .pv (.int .i64 (0)), .pv (.int .i64 (0)), .pv (.int .i64 (0)), .pv (.int .i64 (0)), .pv (.int .i64 (0)), .pv (.int .i64 (0)), .pv (.int .i64 (0)), .pv (.int .i64 (0)), .pv (.int .i64 (0)), .pv (.int .i64 (0)), .pv (.int .i64 (0)), .pv (.int .i64 (0)), .pv (.int .i64 (0)), .pv (.int .i64 (0)), .pv (.int .i64 (0)), .pv (.int .i64 (0)), .pv (.int .i64 (0)), .pv (.int .i64 (0)), .pv (.int .i64 (0)), .pv (.int .i64 (0)), .pv (.bool false), .pv (.bool false), .emp 47, .pv (.int .i64 (0)), .pv (.int .i64 (0)), .pv (.int .i64 (0)), .pv (.int .i64 (0)), .pv (.int .i64 (0)), .pv (.int .i64 (0)), .pv (.int .i64 (0)), .pv (.int .i64 (0)), .emp 1, .pv (.int .i64 (0)), .pv (.int .i64 (0)), .emp 2, .pv (.int .i64 (0)), .pv (.bool false), .pv (.int .i64 (0)), .pv (.str []), .pv (.int .i64 (0)), .pv (.int .i64 (0)), .pv (.int .i64 (0)), .pv (.int .i64 (0)), .pv (.int .i64 (0)), .pv (.int .i64 (0)), .pv (.int .i64 (0)), .pv (.int .i64 (0)), .pv (.int .i64 (0)), .pv (.int .i64 (0)), .pv (.int .i64 (0)), .emp 57, .emp 47, .emp 3, .pv (.str []), .pv (.int .i64 (0))], none, 0⟩,
   ⟨none, .store 67 (.t 6) (.t 42), none, 3⟩] false)
 (.seq (.reg [⟨(some 43), .faddr (.t 6) 2, none, 0⟩,
   ⟨(some 44), .load false 1 (.t 43), none, 1⟩,
   ⟨(some 45), .call (.f 24) [.t 44], none, 3⟩,
   ⟨(some 46), .faddr (.t 6) 2, none, 7⟩,
   ⟨none, .store 1 (.t 46) (.t 45), none, 15⟩] false)
 (.seq (.reg [⟨(some 47), .faddr (.t 6) 2, none, 0⟩,
   ⟨(some 48), .load false 1 (.t 47), none, 1⟩,
   ⟨(some 49), .call (.f 21) [.c (.pv (.str [70, 111, 110, 116]))], none, 0⟩,
   ⟨(some 50), .bsl 7 1 [.pv (.int .i64 (0)), .pv (.bool false), .pv (.int .i64 (0)), .pv (.str []), .pv (.int .i64 (0)), .pv (.int .i64 (0)), .pv (.int .i64 (0))] [(0, .t 49)], none, 4⟩,
   ⟨(some 51), .call (.f 25) [.c (.pv (.int .i64 (1)))], none, 4⟩,
   ⟨(some 52), .bsl 7 1 [.pv (.int .i64 (0)), .pv (.bool false), .pv (.int .i64 (0)), .pv (.str []), .pv (.int .i64 (0)), .pv (.int .i64 (0)), .pv (.int .i64 (0))] [(0, .t 51)], none, 20⟩,
   ⟨(some 53), .build [.pv (.int .i64 (0)), .pv (.str []), .emp 7, .emp 7, .emp 7, .pv (.int .i64 (0)), .pv (.int .i64 (0))] [(0, 1, .c (.pv (.int .i64 (3)))), (5, 1, .c (.pv (.int .i64 (1)))), (3, 1, .t 50), (4, 1, .t 52)], none, 60⟩,
   ⟨(some 54), .iaddr 7 (.t 48) (.c (.pv (.int .i64 (4)))), none, 127⟩,
   ⟨none, .store 7 (.t 54) (.t 53), none, 255⟩] true)
 (.seq (.reg [⟨(some 55), .call (.f 21) [.c (.pv (.str [70]))], none, 0⟩,
   ⟨(some 56), .call (.f 22) [.c (.pv (.int .i64 (10)))], none, 1⟩,
   ⟨(some 57), .call (.f 21) [.c (.pv (.str [70, 111, 110, 116]))], none, 3⟩,
   ⟨(some 58), .bsl 7 3 [.pv (.int .i64 (0)), .pv (.bool false), .pv (.int .i64 (0)), .pv (.str []), .pv (.int .i64 (0)), .pv (.int .i64 (0)), .pv (.int .i64 (0))] [(0, .t 55), (1, .t 56), (2, .t 57)], none, 7⟩,
   ⟨(some 59), .call (.f 20) [.t 58], none, 15⟩,
   ⟨(some 7), .alloc [.emp 7, .emp 7, .emp 7, .emp 3, .pv (.int .i64 (0)), .pv (.int .i64 (0)), .pv (.int .i64 (0)), .pv (.int .i64 (0)), .pv (.int .i64 (0)), .pv (.int .i64 (0)), .pv (.int .i64 (0)), .emp 7, .pv (.int .i64 (0)), .pv (.int .i64 (0)), .pv (.int .i64 (0)), .pv (.int .i64 (0)), .pv (.int .i64 (0)), .pv (.int .i64 (0)), .pv (.int .i64 (0)), .pv (.int .i64 (0)), .pv (.int .i64 (0)), .pv (.int .i64 (0)), .pv (.int .i64 (0)), .pv (.int .i64 (0)), .pv (.int .i64 (0)), .pv (.int .i64 (0)), .pv (.int .i64 (0)), .pv (.int .i64 (0)), .pv (.int .i64 (0)), .pv (.int .i64 (0)), .pv (.int .i64 (0)), .pv (.int .i64 (0)), .pv (.bool false), .pv (.bool false), .emp 47, .pv (.int .i64 (0)), .pv (.int .i64 (0)), .pv (.int .i64 (0)), .pv (.int .i64 (0)), .pv (.int .i64 (0)), .pv (.int .i64 (0)), .pv (.int .i64 (0)), .pv (.int .i64 (0)), .emp 1, .pv (.int .i64 (0)), .pv (.int .i64 (0)), .emp 2, .pv (.int .i64 (0)), .pv (.bool false), .pv (.int .i64 (0)), .pv (.str []), .pv (.int .i64 (0)), .pv (.int .i64 (0)), .pv (.int .i64 (0)), .pv (.int .i64 (0)), .pv (.int .i64 (0)), .pv (.int .i64 (0)), .pv (.int .i64 (0)), .pv (.int .i64 (0)), .pv (.int .i64 (0)), .pv (.int .i64 (0)), .pv (.int .i64 (0)), .emp 57, .emp 47, .emp 3, .pv (.str []), .pv (.int .i64 (0))], none, 0⟩,
   ⟨none, .store 67 (.t 7) (.t 59), none, 63⟩] false)
 (.seq (.reg [⟨(some 60), .faddr (.t 7) 2, none, 0⟩,
   ⟨(some 61), .load false 1 (.t 60), none, 1⟩,
   ⟨(some 62), .call (.f 24) [.t 61], none, 3⟩,
   ⟨(some 63), .faddr (.t 7) 2, none, 7⟩,
   ⟨none, .store 1 (.t 63) (.t 62), none, 15⟩] false)
 (.seq (.reg [⟨(some 64), .faddr (.t 7) 2, none, 0⟩,
   ⟨(some 65), .load false 1 (.t 64), none, 1⟩,
   ⟨(some 66), .build [.pv (.int .i64 (0)), .pv (.str []), .emp 7, .emp 7, .emp 7, .pv (.int .i64 (0)), .pv (.int .i64 (0))] [(0, 1, .c (.pv (.int .i64 (3))))], none, 0⟩,
   ⟨(some 67), .iaddr 7 (.t 65) (.c (.pv (.int .i64 (5)))), none, 7⟩,
   ⟨none, .store 7 (.t 67) (.t 66), none, 15⟩] false)
 (.seq (.reg [⟨(some 69), .load true 67 (.t 6), none, 0⟩,
   ⟨(some 70), .call (.f 21) [.c (.pv (.str [70]))], none, 0⟩,
   ⟨(some 71), .call (.f 26) [.t 69, .c (.pv (.str [70, 111, 110, 116])), .t 70], none, 3⟩,
   ⟨(some 68), .mv (.t 71), none, 7⟩,
   ⟨(some 72), .extract (.t 68) 0, none, 15⟩,
   ⟨(some 73), .extract (.t 68) 1, none, 15⟩,
   ⟨(some 8), .alloc [.pv (.int .i64 (0)), .pv (.bool false), .pv (.int .i64 (0)), .pv (.str []), .pv (.int .i64 (0)), .pv (.int .i64 (0)), .pv (.int .i64 (0))], none, 0⟩,
   ⟨none, .store 7 (.t 8) (.t 72), none, 95⟩,
   ⟨(some 9), .mv (.t 73), none, 255⟩] true)
 (.seq (.reg [⟨(some 75), .load true 67 (.t 2), none, 0⟩,
   ⟨(some 76), .mksl 1 1 [.int .u8 (0)] (.c (.pv (.int .i64 (200)))), none, 0⟩,
   ⟨(some 77), .b2s (.t 76), none, 2⟩,
   ⟨(some 78), .call (.f 21) [.c (.pv (.str [70]))], none, 0⟩,
   ⟨(some 79), .call (.f 26) [.t 75, .t 77, .t 78], none, 15⟩,
   ⟨(some 74), .mv (.t 79), none, 31⟩,
   ⟨(some 80), .extract (.t 74) 0, none, 63⟩,
   ⟨(some 81), .extract (.t 74) 1, none, 63⟩,
   ⟨(some 10), .alloc [.pv (.int .i64 (0)), .pv (.bool false), .pv (.int .i64 (0)), .pv (.str []), .pv (.int .i64 (0)), .pv (.int .i64 (0)), .pv (.int .i64 (0))], none, 0⟩,
   ⟨none, .store 7 (.t 10) (.t 80), none, 383⟩,
   ⟨(some 11), .mv (.t 81), none, 1023⟩] true)
 (.seq (.reg [⟨(some 82), .build [.pv (.int .i64 (0)), .pv (.bool false), .pv (.int .i64 (0)), .pv (.str []), .pv (.int .i64 (0)), .pv (.int .i64 (0)), .pv (.int .i64 (0))] [], none, 0⟩,
   ⟨(some 12), .alloc [.pv (.int .i64 (0)), .pv (.bool false), .pv (.int .i64 (0)), .pv (.str []), .pv (.int .i64 (0)), .pv (.int .i64 (0)), .pv (.int .i64 (0))], none, 0⟩,
   ⟨none, .store 7 (.t 12) (.t 82), none, 3⟩] false)
 (.seq (.reg [⟨(some 83), .call (.f 21) [.c (.pv (.str [70]))], none, 0⟩,
   ⟨(some 84), .build [.pv (.int .i64 (0)), .pv (.bool false), .pv (.int .i64 (0)), .pv (.str []), .pv (.int .i64 (0)), .pv (.int .i64 (0)), .pv (.int .i64 (0))] [(0, 1, .c (.pv (.int .i64 (6)))), (4, 1, .c (.pv (.int .i64 (12)))), (6, 1, .c (.pv (.int .i64 (101))))], none, 0⟩,
   ⟨(some 85), .bsl 7 2 [.pv (.int .i64 (0)), .pv (.bool false), .pv (.int .i64 (0)), .pv (.str []), .pv (.int .i64 (0)), .pv (.int .i64 (0)), .pv (.int .i64 (0))] [(0, .t 83), (1, .t 84)], none, 3⟩,
   ⟨(some 86), .call (.f 20) [.t 85], none, 7⟩,
   ⟨(some 13), .alloc [.emp 7, .emp 7, .emp 7, .emp 3, .pv (.int .i64 (0)), .pv (.int .i64 (0)), .pv (.int .i64 (0)), .pv (.int .i64 (0)), .pv (.int .i64 (0)), .pv (.int .i64 (0)), .pv (.int .i64 (0)), .emp 7, .pv (.int .i64 (0)), .pv (.int .i64 (0)), .pv (.int .i64 (0)), .pv (.int .i64 (0)), .pv (.int .i64 (0)), .pv (.int .i64 (0)), .pv (.int .i64 (0)), .pv (.int .i64 (0)), .pv (.int .i64 (0)), .pv (.int .i64 (0)), .pv (.int .i64 (0)), .pv (.int .i64 (0)), .pv (.int .i64 (0)), .pv (.int .i64 (0)), .pv (.int .i64 (0)), .pv (.int .i64 (0)), .pv (.int .i64 (0)), .pv (.int .i64 (0)), .pv (.int .i64 (0)), .pv (.int .i64 (0)), .pv (.bool false), .pv (.bool false), .emp 47, .pv (.int .i64 (0)), .pv (.int .i64 (0)), .pv (.int .i64 (0)), .pv (.int .i64 (0)), .pv (.int .i64 (0)), .pv (.int .i64 (0)), .pv (.int .i64 (0)), .pv (.int .i64 (0)), .emp 1, .pv (.int .i64 (0)), .pv (.int .i64 (0)), .emp 2, .pv (.int .i64 (0)), .pv (.bool false), .pv (.int .i64 (0)), .pv (.str []), .pv (.int .i64 (0)), .pv (.int .i64 (0)), .pv (.int .i64 (0)), .pv (.int .i64 (0)), .pv (.int .i64 (0)), .pv (.int .i64 (0)), .pv (.int .i64 (0)), .pv (.int .i64 (0)), .pv (.int .i64 (0)), .pv (.int .i64 (0)), .pv (.int .i64 (0)), .emp 57, .emp 47, .emp 3, .pv (.str []), .pv (.int .i64 (0))], none, 0⟩,
   ⟨none, .store 67 (.t 13) (.t 86), none, 31⟩] false)
 (.seq (.reg [⟨(some 87), .faddr (.t 13) 2, none, 0⟩,
   ⟨(some 88), .load false 1 (.t 87), none, 1⟩,
   ⟨(some 89), .mksl 1 1 [.int .u8 (0)] (.c (.pv (.int .i64 (101)))), none, 0⟩,
   ⟨(some 90), .b2s (.t 89), none, 4⟩,
   ⟨(some 91), .build [.pv (.int .i64 (0)), .pv (.str []), .emp 7, .emp 7, .emp 7, .pv (.int .i64 (0)), .pv (.int .i64 (0))] [(0, 1, .c (.pv (.int .i64 (1)))), (1, 1, .t 90)], none, 12⟩,
   ⟨(some 92), .bsl 7 1 [.pv (.int .i64 (0)), .pv (.str []), .emp 7, .emp 7, .emp 7, .pv (.int .i64 (0)), .pv (.int .i64 (0))] [(0, .t 91)], none, 28⟩,
   ⟨(some 93), .append 7 112 (.t 88) (.t 92), none, 63⟩,
   ⟨(some 94), .faddr (.t 13) 2, none, 127⟩,
   ⟨none, .store 1 (.t 94) (.t 93), none, 255⟩] true)
 (.seq (.reg [⟨(some 95), .load true 67 (.t 2), none, 0⟩,
   ⟨(some 96), .mv (.t 1), none, 0⟩,
   ⟨(some 97), .call (.t 96) [.c (.pv (.int .i64 (0))), .c (.pv (.int .i64 (1)))], none, 2⟩,
   ⟨(some 98), .mv (.t 1), none, 0⟩,
   ⟨(some 99), .call (.t 98) [.c (.pv (.int .i64 (1))), .c (.pv (.int .i64 (4)))], none, 14⟩,
   ⟨(some 100), .bsl 7 2 [.pv (.int .i64 (0)), .pv (.bool false), .pv (.int .i64 (0)), .pv (.str []), .pv (.int .i64 (0)), .pv (.int .i64 (0)), .pv (.int .i64 (0))] [(0, .t 97), (1, .t 99)], none, 30⟩,
   ⟨(some 101), .call (.f 23) [.t 95, .t 100], none, 63⟩,
   ⟨(some 102), .call (.f 22) [.c (.pv (.int .i64 (10)))], none, 127⟩,
   ⟨(some 103), .bsl 7 1 [.pv (.int .i64 (0)), .pv (.bool false), .pv (.int .i64 (0)), .pv (.str []), .pv (.int .i64 (0)), .pv (.int .i64 (0)), .pv (.int .i64 (0))] [(0, .t 102)], none, 255⟩,
   ⟨(some 104), .call (.f 27) [.t 101, .c (.pv (.str [102, 105, 110, 100, 114, 101, 115, 111, 117, 114, 99, 101])), .t 103], none, 511⟩,
   ⟨(some 105), .mv (.t 104), none, 1023⟩,
   ⟨(some 106), .load true 67 (.t 2), (some (105, true)), 2047⟩,
   ⟨(some 107), .call (.f 21) [.c (.pv (.str [70]))], (some (105, true)), 2047⟩,
   ⟨(some 108), .call (.f 21) [.c (.pv (.str [70, 111, 110, 116]))], (some (105, true)), 6143⟩,
   ⟨(some 109), .bsl 7 2 [.pv (.int .i64 (0)), .pv (.bool false), .pv (.int .i64 (0)), .pv (.str []), .pv (.int .i64 (0)), .pv (.int .i64 (0)), .pv (.int .i64 (0))] [(0, .t 107), (1, .t 108)], (some (105, true)), 14335⟩,
   ⟨(some 110), .call (.f 23) [.t 106, .t 109], (some (105, true)), 32767⟩,
   ⟨(some 111), .call (.f 28) [.c (.pv (.bool true))], (some (105, true)), 65535⟩,
   ⟨(some 112), .bsl 7 1 [.pv (.int .i64 (0)), .pv (.bool false), .pv (.int .i64 (0)), .pv (.str []), .pv (.int .i64 (0)), .pv (.int .i64 (0)), .pv (.int .i64 (0))] [(0, .t 111)], (some (105, true)), 131071⟩,
   ⟨(some 113), .call (.f 27) [.t 110, .c (.pv (.str [114, 101, 115, 111, 117, 114, 99, 101, 115, 116, 97, 116, 117, 115])), .t 112], (some (105, true)), 262143⟩,
   ⟨(some 114), .pick (.t 105) (.t 113) (.c (.pv (.bool false))), none, 524287⟩,
   ⟨(some 115), .mv (.t 114), none, 1048575⟩,
   ⟨(some 116), .load true 67 (.t 2), (some (115, true)), 2097151⟩,
   ⟨(some 117), .call (.f 21) [.c (.pv (.str [70]))], (some (115, true)), 2097151⟩,
   ⟨(some 118), .call (.f 21) [.c (.pv (.str [70, 111, 114, 109]))], (some (115, true)), 6291455⟩,
   ⟨(some 119), .bsl 7 2 [.pv (.int .i64 (0)), .pv (.bool false), .pv (.int .i64 (0)), .pv (.str []), .pv (.int .i64 (0)), .pv (.int .i64 (0)), .pv (.int .i64 (0))] [(0, .t 117), (1, .t 118)], (some (115, true)), 14680063⟩,
   ⟨(some 120), .call (.f 23) [.t 116, .t 119], (some (115, true)), 33554431⟩,
   ⟨(some 121), .call (.f 29) [.t 120, .c (.pv (.str [102, 105, 110, 100, 114, 101, 115, 111, 117, 114, 99, 101])), .c (.pv (.int .i64 (40)))], (some (115, true)), 67108863⟩,
   ⟨(some 122), .pick (.t 115) (.t 121) (.c (.pv (.bool false))), none, 134217727⟩,
   ⟨(some 123), .mv (.t 122), none, 268435455⟩,
   ⟨(some 124), .load true 67 (.t 4), (some (123, true)), 536870911⟩,
   ⟨(some 125), .call (.f 21) [.c (.pv (.str [70]))], (some (123, true)), 536870911⟩,
   ⟨(some 126), .call (.f 21) [.c (.pv (.str [70, 111, 110, 116]))], (some (123, true)), 1610612735⟩,
   ⟨(some 127), .bsl 7 2 [.pv (.int .i64 (0)), .pv (.bool false), .pv (.int .i64 (0)), .pv (.str []), .pv (.int .i64 (0)), .pv (.int .i64 (0)), .pv (.int .i64 (0))] [(0, .t 125), (1, .t 126)], (some (123, true)), 3758096383⟩,
   ⟨(some 128), .call (.f 23) [.t 124, .t 127], (some (123, true)), 8589934591⟩,
   ⟨(some 129), .call (.f 29) [.t 128, .c (.pv (.str [102, 105, 110, 100, 114, 101, 115, 111, 117, 114, 99, 101])), .c (.pv (.int .i64 (40)))], (some (123, true)), 17179869183⟩,
   ⟨(some 130), .pick (.t 123) (.t 129) (.c (.pv (.bool false))), none, 34359738367⟩,
   ⟨(some 131), .mv (.t 130), none, 68719476735⟩,
   ⟨(some 132), .load true 67 (.t 4), (some (131, true)), 137438953471⟩,
   ⟨(some 133), .call (.f 21) [.c (.pv (.str [70]))], (some (131, true)), 137438953471⟩,
   ⟨(some 134), .call (.f 21) [.c (.pv (.str [70, 111, 110, 116]))], (some (131, true)), 412316860415⟩,
   ⟨(some 135), .bsl 7 2 [.pv (.int .i64 (0)), .pv (.bool false), .pv (.int .i64 (0)), .pv (.str []), .pv (.int .i64 (0)), .pv (.int .i64 (0)), .pv (.int .i64 (0))] [(0, .t 133), (1, .t 134)], (some (131, true)), 962072674303⟩,
   ⟨(some 136), .call (.f 23) [.t 132, .t 135], (some (131, true)), 2199023255551⟩,
   ⟨(some 137), .call (.f 27) [.t 136, .c (.pv (.str [117, 110, 100, 101, 102, 105, 110, 101, 114, 101, 115, 111, 117, 114, 99, 101])), .c (.emp 7)], (some (131, true)), 4398046511103⟩,
   ⟨(some 138), .pick (.t 131) (.t 137) (.c (.pv (.bool false))), none, 8796093022207⟩,
   ⟨(some 139), .mv (.t 138), none, 17592186044415⟩,
   ⟨(some 140), .call (.f 21) [.c (.pv (.str [70]))], (some (139, true)), 35184372088831⟩,
   ⟨(some 141), .call (.f 25) [.c (.pv (.int .i64 (1)))], (some (139, true)), 70368744177663⟩,
   ⟨(some 142), .call (.f 21) [.c (.pv (.str [71, 101, 110, 101, 114, 105, 99]))], (some (139, true)), 140737488355327⟩,
   ⟨(some 143), .bsl 7 3 [.pv (.int .i64 (0)), .pv (.bool false), .pv (.int .i64 (0)), .pv (.str []), .pv (.int .i64 (0)), .pv (.int .i64 (0)), .pv (.int .i64 (0))] [(0, .t 140), (1, .t 141), (2, .t 142)], (some (139, true)), 281474976710655⟩,
   ⟨(some 144), .call (.f 20) [.t 143], (some (139, true)), 562949953421311⟩,
   ⟨(some 145), .call (.f 25) [.c (.pv (.int .i64 (1)))], (some (139, true)), 1125899906842623⟩,
   ⟨(some 146), .bsl 7 1 [.pv (.int .i64 (0)), .pv (.bool false), .pv (.int .i64 (0)), .pv (.str []), .pv (.int .i64 (0)), .pv (.int .i64 (0)), .pv (.int .i64 (0))] [(0, .t 145)], (some (139, true)), 2251799813685247⟩,
   ⟨(some 147), .call (.f 27) [.t 144, .c (.pv (.str [100, 101, 102, 105, 110, 101, 114, 101, 115, 111, 117, 114, 99, 101])), .t 146], (some (139, true)), 4503599627370495⟩,
   ⟨(some 148), .pick (.t 139) (.t 147) (.c (.pv (.bool false))), none, 9007199254740991⟩,
   ⟨(some 149), .mv (.t 148), none, 18014398509481983⟩,
   ⟨(some 150), .call (.f 25) [.c (.pv (.int .i64 (5)))], (some (149, true)), 36028797018963967⟩,
   ⟨(some 151), .build [.pv (.int .i64 (0)), .pv (.bool false), .pv (.int .i64 (0)), .pv (.str []), .pv (.int .i64 (0)), .pv (.int .i64 (0)), .pv (.int .i64 (0))] [(0, 1, .c (.pv (.int .i64 (5)))), (3, 1, .c (.pv (.str [70])))], (some (149, true)), 36028797018963967⟩,
   ⟨(some 152), .call (.f 25) [.c (.pv (.int .i64 (1)))], (some (149, true)), 72057594037927935⟩,
   ⟨(some 153), .call (.f 21) [.c (.pv (.str [71, 101, 110, 101, 114, 105, 99]))], (some (149, true)), 216172782113783807⟩,
   ⟨(some 154), .bsl 7 4 [.pv (.int .i64 (0)), .pv (.bool false), .pv (.int .i64 (0)), .pv (.str []), .pv (.int .i64 (0)), .pv (.int .i64 (0)), .pv (.int .i64 (0))] [(0, .t 150), (1, .t 151), (2, .t 152), (3, .t 153)], (some (149, true)), 576460752303423487⟩,
   ⟨(some 155), .call (.f 20) [.t 154], (some (149, true)), 1152921504606846975⟩,
   ⟨(some 156), .call (.f 25) [.c (.pv (.int .i64 (5)))], (some (149, true)), 2305843009213693951⟩,
   ⟨(some 157), .call (.f 25) [.c (.pv (.int .i64 (1)))], (some (149, true)), 4611686018427387903⟩,
   ⟨(some 158), .bsl 7 2 [.pv (.int .i64 (0)), .pv (.bool false), .pv (.int .i64 (0)), .pv (.str []), .pv (.int .i64 (0)), .pv (.int .i64 (0)), .pv (.int .i64 (0))] [(0, .t 156), (1, .t 157)], (some (149, true)), 9223372036854775807⟩,
   ⟨(some 159), .call (.f 27) [.t 155, .c (.pv (.str [100, 101, 102, 105, 110, 101, 114, 101, 115, 111, 117, 114, 99, 101])), .t 158], (some (149, true)), 18446744073709551615⟩,
   ⟨(some 160), .pick (.t 149) (.t 159) (.c (.pv (.bool false))), none, 36893488147419103231⟩,
   ⟨(some 14), .mv (.t 160), none, 73786976294838206463⟩] true)
 (.seq (.reg [⟨(some 161), .call (.f 21) [.c (.pv (.str [70]))], none, 0⟩,
   ⟨(some 162), .call (.f 25) [.c (.pv (.int .i64 (1)))], none, 1⟩,
   ⟨(some 163), .call (.f 21) [.c (.pv (.str [69, 110, 99, 111, 100, 105, 110, 103]))], none, 3⟩,
   ⟨(some 164), .bsl 7 3 [.pv (.int .i64 (0)), .pv (.bool false), .pv (.int .i64 (0)), .pv (.str []), .pv (.int .i64 (0)), .pv (.int .i64 (0)), .pv (.int .i64 (0))] [(0, .t 161), (1, .t 162), (2, .t 163)], none, 7⟩,
   ⟨(some 165), .call (.f 20) [.t 164], none, 15⟩,
   ⟨(some 166), .call (.f 29) [.t 165, .c (.pv (.str [100, 101, 102, 105, 110, 101, 114, 101, 115, 111, 117, 114, 99, 101])), .c (.pv (.int .i64 (22)))], none, 31⟩,
   ⟨(some 167), .mv (.t 166), none, 63⟩,
   ⟨(some 168), .load true 7 (.t 12), (some (167, true)), 127⟩,
   ⟨(some 169), .call (.f 22) [.c (.pv (.int .i64 (10)))], (some (167, true)), 127⟩,
   ⟨(some 170), .call (.f 21) [.c (.pv (.str [70, 111, 110, 116]))], (some (167, true)), 383⟩,
   ⟨(some 171), .bsl 7 3 [.pv (.int .i64 (0)), .pv (.bool false), .pv (.int .i64 (0)), .pv (.str []), .pv (.int .i64 (0)), .pv (.int .i64 (0)), .pv (.int .i64 (0))] [(0, .t 168), (1, .t 169), (2, .t 170)], (some (167, true)), 1023⟩,
   ⟨(some 172), .call (.f 20) [.t 171], (some (167, true)), 2047⟩,
   ⟨(some 173), .call (.f 29) [.t 172, .c (.pv (.str [100, 101, 102, 105, 110, 101, 114, 101, 115, 111, 117, 114, 99, 101])), .c (.pv (.int .i64 (22)))], (some (167, true)), 4095⟩,
   ⟨(some 174), .pick (.t 167) (.t 173) (.c (.pv (.bool false))), none, 8191⟩,
   ⟨(some 175), .mv (.t 174), none, 16383⟩,
   ⟨(some 176), .call (.f 21) [.c (.pv (.str [70]))], (some (175, true)), 32767⟩,
   ⟨(some 177), .call (.f 22) [.c (.pv (.int .i64 (10)))], (some (175, true)), 65535⟩,
   ⟨(some 178), .call (.f 25) [.c (.pv (.int .i64 (1)))], (some (175, true)), 131071⟩,
   ⟨(some 179), .bsl 7 3 [.pv (.int .i64 (0)), .pv (.bool false), .pv (.int .i64 (0)), .pv (.str []), .pv (.int .i64 (0)), .pv (.int .i64 (0)), .pv (.int .i64 (0))] [(0, .t 176), (1, .t 177), (2, .t 178)], (some (175, true)), 262143⟩,
   ⟨(some 180), .call (.f 20) [.t 179], (some (175, true)), 524287⟩,
   ⟨(some 181), .call (.f 29) [.t 180, .c (.pv (.str [100, 101, 102, 105, 110, 101, 114, 101, 115, 111, 117, 114, 99, 101])), .c (.pv (.int .i64 (22)))], (some (175, true)), 1048575⟩,
   ⟨(some 182), .pick (.t 175) (.t 181) (.c (.pv (.bool false))), none, 2097151⟩,
   ⟨(some 183), .mv (.t 182), none, 4194303⟩,
   ⟨(some 184), .call (.f 22) [.c (.pv (.int .i64 (10)))], (some (183, true)), 8388607⟩,
   ⟨(some 185), .call (.f 21) [.c (.pv (.str [70, 111, 110, 116]))], (some (183, true)), 16777215⟩,
   ⟨(some 186), .bsl 7 2 [.pv (.int .i64 (0)), .pv (.bool false), .pv (.int .i64 (0)), .pv (.str []), .pv (.int .i64 (0)), .pv (.int .i64 (0)), .pv (.int .i64 (0))] [(0, .t 184), (1, .t 185)], (some (183, true)), 33554431⟩,
   ⟨(some 187), .call (.f 20) [.t 186], (some (183, true)), 67108863⟩,
   ⟨(some 188), .call (.f 29) [.t 187, .c (.pv (.str [100, 101, 102, 105, 110, 101, 114, 101, 115, 111, 117, 114, 99, 101])), .c (.pv (.int .i64 (20)))], (some (183, true)), 134217727⟩,
   ⟨(some 189), .pick (.t 183) (.t 188) (.c (.pv (.bool false))), none, 268435455⟩,
   ⟨(some 190), .mv (.t 189), none, 536870911⟩,
   ⟨(some 191), .load true 7 (.t 12), (some (190, true)), 1073741823⟩,
   ⟨(some 192), .call (.f 21) [.c (.pv (.str [70, 111, 110, 116, 115]))], (some (190, true)), 1073741823⟩,
   ⟨(some 193), .bsl 7 2 [.pv (.int .i64 (0)), .pv (.bool false), .pv (.int .i64 (0)), .pv (.str []), .pv (.int .i64 (0)), .pv (.int .i64 (0)), .pv (.int .i64 (0))] [(0, .t 191), (1, .t 192)], (some (190, true)), 4294967295⟩,
   ⟨(some 194), .call (.f 20) [.t 193], (some (190, true)), 8589934591⟩,
   ⟨(some 195), .call (.f 29) [.t 194, .c (.pv (.str [102, 105, 110, 100, 114, 101, 115, 111, 117, 114, 99, 101])), .c (.pv (.int .i64 (22)))], (some (190, true)), 17179869183⟩,
   ⟨(some 196), .pick (.t 190) (.t 195) (.c (.pv (.bool false))), none, 34359738367⟩,
   ⟨(some 197), .mv (.t 196), none, 68719476735⟩,
   ⟨(some 198), .call (.f 21) [.c (.pv (.str [70]))], (some (197, true)), 137438953471⟩,
   ⟨(some 199), .call (.f 25) [.c (.pv (.int .i64 (1)))], (some (197, true)), 274877906943⟩,
   ⟨(some 200), .call (.f 21) [.c (.pv (.str [70, 111, 110, 116, 115]))], (some (197, true)), 549755813887⟩,
   ⟨(some 201), .bsl 7 3 [.pv (.int .i64 (0)), .pv (.bool false), .pv (.int .i64 (0)), .pv (.str []), .pv (.int .i64 (0)), .pv (.int .i64 (0)), .pv (.int .i64 (0))] [(0, .t 198), (1, .t 199), (2, .t 200)], (some (197, true)), 1099511627775⟩,
   ⟨(some 202), .call (.f 20) [.t 201], (some (197, true)), 2199023255551⟩,
   ⟨(some 203), .call (.f 29) [.t 202, .c (.pv (.str [100, 101, 102, 105, 110, 101, 114, 101, 115, 111, 117, 114, 99, 101])), .c (.pv (.int .i64 (24)))], (some (197, true)), 4398046511103⟩,
   ⟨(some 204), .pick (.t 197) (.t 203) (.c (.pv (.bool false))), none, 8796093022207⟩,
   ⟨(some 205), .mv (.t 204), none, 17592186044415⟩,
   ⟨(some 206), .load true 67 (.t 7), (some (205, true)), 35184372088831⟩,
   ⟨(some 207), .call (.f 29) [.t 206, .c (.pv (.str [100, 101, 102, 105, 110, 101, 114, 101, 115, 111, 117, 114, 99, 101])), .c (.pv (.int .i64 (30)))], (some (205, true)), 70368744177663⟩,
   ⟨(some 208), .pick (.t 205) (.t 207) (.c (.pv (.bool false))), none, 140737488355327⟩,
   ⟨(some 209), .mv (.t 208), none, 281474976710655⟩,
   ⟨(some 210), .load true 67 (.t 6), (some (209, true)), 562949953421311⟩,
   ⟨(some 211), .call (.f 21) [.c (.pv (.str [70]))], (some (209, true)), 562949953421311⟩,
   ⟨(some 212), .call (.f 21) [.c (.pv (.str [70, 111, 110, 116]))], (some (209, true)), 1688849860263935⟩,
   ⟨(some 213), .bsl 7 2 [.pv (.int .i64 (0)), .pv (.bool false), .pv (.int .i64 (0)), .pv (.str []), .pv (.int .i64 (0)), .pv (.int .i64 (0)), .pv (.int .i64 (0))] [(0, .t 211), (1, .t 212)], (some (209, true)), 3940649673949183⟩,
   ⟨(some 214), .call (.f 23) [.t 210, .t 213], (some (209, true)), 9007199254740991⟩,
   ⟨(some 215), .call (.f 29) [.t 214, .c (.pv (.str [102, 105, 110, 100, 114, 101, 115, 111, 117, 114, 99, 101])), .c (.pv (.int .i64 (24)))], (some (209, true)), 18014398509481983⟩,
   ⟨(some 216), .pick (.t 209) (.t 215) (.c (.pv (.bool false))), none, 36028797018963967⟩,
   ⟨(some 217), .mv (.t 216), none, 72057594037927935⟩,
   ⟨(some 218), .load true 67 (.t 13), (some (217, true)), 144115188075855871⟩,
   ⟨(some 219), .call (.f 29) [.t 218, .c (.pv (.str [102, 105, 110, 100, 114, 101, 115, 111, 117, 114, 99, 101])), .c (.pv (.int .i64 (23)))], (some (217, true)), 288230376151711743⟩,
   ⟨(some 220), .pick (.t 217) (.t 219) (.c (.pv (.bool false))), none, 576460752303423487⟩,
   ⟨(some 221), .mv (.t 220), none, 1152921504606846975⟩,
   ⟨(some 222), .call (.f 21) [.c (.pv (.str [70]))], (some (221, true)), 2305843009213693951⟩,
   ⟨(some 223), .call (.f 21) [.c (.pv (.str [70, 111, 110, 116]))], (some (221, true)), 4611686018427387903⟩,
   ⟨(some 224), .bsl 7 2 [.pv (.int .i64 (0)), .pv (.bool false), .pv (.int .i64 (0)), .pv (.str []), .pv (.int .i64 (0)), .pv (.int .i64 (0)), .pv (.int .i64 (0))] [(0, .t 222), (1, .t 223)], (some (221, true)), 9223372036854775807⟩,
   ⟨(some 225), .call (.f 20) [.t 224], (some (221, true)), 18446744073709551615⟩,
   ⟨(some 226), .call (.f 29) [.t 225, .c (.pv (.str [114, 101, 115, 111, 117, 114, 99, 101, 102, 111, 114, 97, 108, 108])), .c (.pv (.int .i64 (24)))], (some (221, true)), 36893488147419103231⟩,
   ⟨(some 227), .pick (.t 221) (.t 226) (.c (.pv (.bool false))), none, 73786976294838206463⟩,
   ⟨(some 15), .mv (.t 227), none, 147573952589676412927⟩] true)
 (.seq (.reg [⟨(some 228), .mv (.t 14), none, 0⟩,
   ⟨(some 229), .mv (.t 228), none, 1⟩,
   ⟨(some 230), .mv (.t 15), (some (229, true)), 3⟩,
   ⟨(some 231), .pick (.t 229) (.t 230) (.c (.pv (.bool false))), none, 7⟩,
   ⟨(some 232), .mv (.t 231), none, 15⟩,
   ⟨(some 233), .mv (.t 9), (some (232, true)), 31⟩,
   ⟨(some 234), .bin .eql (.t 233) (.c (.pv (.int .i64 (24)))), (some (232, true)), 63⟩,
   ⟨(some 235), .pick (.t 232) (.t 234) (.c (.pv (.bool false))), none, 127⟩,
   ⟨(some 236), .mv (.t 235), none, 255⟩,
   ⟨(some 237), .mv (.t 11), (some (236, true)), 511⟩,
   ⟨(some 238), .bin .eql (.t 237) (.c (.pv (.int .i64 (24)))), (some (236, true)), 1023⟩,
   ⟨(some 239), .pick (.t 236) (.t 238) (.c (.pv (.bool false))), none, 2047⟩,
   ⟨(some 0), .mv (.t 239), none, 4095⟩] false)
 (.ret))))))))))))))))))))⟩
def c15 : RFn := ⟨1, 8, [.tmp 2],
 .seq (.reg [⟨(some 2), .mv (.c (.emp 7)), none, 0⟩] false)
 (.seq (.seq (.reg [⟨(some 3), .mv (.t 0), none, 0⟩,
   ⟨(some 4), .isnil false (.t 3), none, 1⟩] false)
 (.cond (.t 4)
  (.seq (.reg [⟨(some 2), .mv (.c (.emp 7)), none, 0⟩] false)
  (.ret))
  (.skip)))
 (.seq (.reg [⟨(some 5), .bsl 7 0 [.pv (.int .i64 (0)), .pv (.bool false), .pv (.int .i64 (0)), .pv (.str []), .pv (.int .i64 (0)), .pv (.int .i64 (0)), .pv (.int .i64 (0))] [], none, 0⟩,
   ⟨(some 6), .mv (.t 0), none, 0⟩,
   ⟨(some 7), .append 7 64 (.t 5) (.t 6), none, 3⟩,
   ⟨(some 2), .mv (.t 7), none, 7⟩] false)
 (.ret)))⟩
theorem clone15 : c15 = cloneC 7 64 [.pv (.int .i64 (0)), .pv (.bool false), .pv (.int .i64 (0)), .pv (.str []), .pv (.int .i64 (0)), .pv (.int .i64 (0)), .pv (.int .i64 (0))] := rfl
def c16 : RFn := ⟨2, 26, [.tmp 4],
 .seq (.reg [⟨(some 4), .mv (.c (.pv (.bool false))), none, 0⟩] false)
 (.seq (.seq (.reg [⟨(some 6), .mv (.t 0), none, 0⟩,
   ⟨(some 7), .slen (.t 6), none, 1⟩,
   ⟨(some 8), .mv (.t 1), none, 0⟩,
   ⟨(some 9), .slen (.t 8), none, 4⟩,
   ⟨(some 10), .bin .neq (.t 7) (.t 9), none, 15⟩] false)
 (.cond (.t 10)
  (.seq (.reg [⟨(some 4), .mv (.c (.pv (.bool false))), none, 0⟩] false)
  (.ret))
  (.skip)))
 (.seq (.seq (.reg [⟨(some 11), .mv (.t 0), none, 0⟩,
   ⟨(some 12), .slen (.t 11), none, 1⟩,
   ⟨(some 13), .mv (.c (.pv (.int .i64 (0)))), none, 0⟩] false)
 (.block 0
  (.loop [0, 1, 12, 13]
   (.seq (.reg [⟨(some 14), .bin .lss (.t 13) (.t 12), none, 0⟩] false)
   (.seq (.cond (.t 14)
    (.skip)
    (.exit 0))
   (.seq (.block 1
    (.seq (.reg [⟨(some 15), .mv (.t 13), none, 0⟩,
      ⟨(some 5), .mv (.t 15), none, 1⟩] false)
    (.seq (.reg [⟨(some 16), .mv (.t 0), none, 0⟩,
      ⟨(some 17), .mv (.t 5), none, 0⟩,
      ⟨(some 18), .iaddr 7 (.t 16) (.t 17), none, 3⟩,
      ⟨(some 19), .load true 7 (.t 18), none, 7⟩,
      ⟨(some 20), .mv (.t 1), none, 0⟩,
      ⟨(some 21), .mv (.t 5), none, 0⟩,
      ⟨(some 22), .iaddr 7 (.t 20) (.t 21), none, 48⟩,
      ⟨(some 23), .load true 7 (.t 22), none, 112⟩,
      ⟨(some 24), .eqs true [0, 1, 0, 2, 0, 0, 0] (.t 19) (.t 23), none, 255⟩] true)
    (.cond (.t 24)
     (.seq (.reg [⟨(some 4), .mv (.c (.pv (.bool false))), none, 0⟩] false)
     (.ret))
     (.skip)))))
   (.reg [⟨(some 25), .bin .add (.t 13) (.c (.pv (.int .i64 (1)))), none, 0⟩,
     ⟨(some 13), .mv (.t 25), none, 1⟩] false)))))))
 (.seq (.reg [⟨(some 4), .mv (.c (.pv (.bool true))), none, 0⟩] false)
 (.ret))))⟩
def c17 : RFn := ⟨0, 85, [.tmp 0],
 .seq (.reg [⟨(some 0), .mv (.c (.pv (.bool false))), none, 0⟩] false)
 (.seq (.reg [⟨(some 8), .call (.f 21) [.c (.pv (.str [70]))], none, 0⟩,
   ⟨(some 9), .call (.f 22) [.c (.pv (.int .i64 (10)))], none, 1⟩,
   ⟨(some 10), .call (.f 21) [.c (.pv (.str [70, 111, 110, 116]))], none, 3⟩,
   ⟨(some 11), .bsl 7 3 [.pv (.int .i64 (0)), .pv (.bool false), .pv (.int .i64 (0)), .pv (.str []), .pv (.int .i64 (0)), .pv (.int .i64 (0)), .pv (.int .i64 (0))] [(0, .t 8), (1, .t 9), (2, .t 10)], none, 7⟩,
   ⟨(some 12), .call (.f 20) [.t 11], none, 15⟩,
   ⟨(some 13), .call (.f 19) [.t 12, .c (.pv (.str [100, 101, 102, 105, 110, 101, 114, 101, 115, 111, 117, 114, 99, 101]))], none, 31⟩,
   ⟨(some 7), .mv (.t 13), none, 63⟩,
   ⟨(some 14), .extract (.t 7) 0, none, 127⟩,
   ⟨(some 15), .extract (.t 7) 1, none, 127⟩,
   ⟨(some 1), .alloc [.emp 7, .emp 7, .emp 7, .emp 3, .pv (.int .i64 (0)), .pv (.int .i64 (0)), .pv (.int .i64 (0)), .pv (.int .i64 (0)), .pv (.int .i64 (0)), .pv (.int .i64 (0)), .pv (.int .i64 (0)), .emp 7, .pv (.int .i64 (0)), .pv (.int .i64 (0)), .pv (.int .i64 (0)), .pv (.int .i64 (0)), .pv (.int .i64 (0)), .pv (.int .i64 (0)), .pv (.int .i64 (0)), .pv (.int .i64 (0)), .pv (.int .i64 (0)), .pv (.int .i64 (0)), .pv (.int .i64 (0)), .pv (.int .i64 (0)), .pv (.int .i64 (0)), .pv (.int .i64 (0)), .pv (.int .i64 (0)), .pv (.int .i64 (0)), .pv (.int .i64 (0)), .pv (.int .i64 (0)), .pv (.int .i64 (0)), .pv (.int .i64 (0)), .pv (.bool false), .pv (.bool false), .emp 47, .pv (.int .i64 (0)), .pv (.int .i64 (0)), .pv (.int .i64 (0)), .pv (.int .i64 (0)), .pv (.int .i64 (0)), .pv (.int .i64 (0)), .pv (.int .i64 (0)), .pv (.int .i64 (0)), .emp 1, .pv (.int .i64 (0)), .pv (.int .i64 (0)), .emp 2, .pv (.int .i64 (0)), .pv (.bool false), .pv (.int .i64 (0)), .pv (.str []), .pv (.int .i64 (0)), .pv (.int .i64 (0)), .pv (.int .i64 (0)), .pv (.int .i64 (0)), .pv (.int .i64 (0)), .pv (.int .i64 (0)), .pv (.int .i64 (0)), .pv (.int .i64 (0)), .pv (.int .i64 (0)), .pv (.int .i64 (0)), .pv (.int .i64 (0)), .emp 57, .emp 47, .emp 3, .pv (.str []), .pv (.int .i64 (0))], none, 0⟩,
   ⟨none, .store 67 (.t 1) (.t 14), none, 767⟩,
   ⟨(some 2), .mv (.t 15), none, 2047⟩] false)
 (.seq (.reg [⟨(some 17), .load true 67 (.t 1), none, 0⟩,
   ⟨(some 18), .call (.f 21) [.c (.pv (.str [70]))], none, 0⟩,
   ⟨(some 19), .call (.f 26) [.t 17, .c (.pv (.str [70, 111, 110, 116])), .t 18], none, 3⟩,
   ⟨(some 16), .mv (.t 19), none, 7⟩,
   ⟨(some 20), .extract (.t 16) 0, none, 15⟩,
   ⟨(some 21), .extract (.t 16) 1, none, 15⟩,
   ⟨(some 3), .alloc [.pv (.int .i64 (0)), .pv (.bool false), .pv (.int .i64 (0)), .pv (.str []), .pv (.int .i64 (0)), .pv (.int .i64 (0)), .pv (.int .i64 (0))], none, 0⟩,
   ⟨none, .store 7 (.t 3) (.t 20), none, 95⟩,
   ⟨(some 4), .mv (.t 21), none, 255⟩] true)
 (.seq (.reg [⟨(some 23), .load true 67 (.t 1), none, 0⟩,
   ⟨(some 24), .call (.f 21) [.c (.pv (.str [70]))], none, 0⟩,
   ⟨(some 25), .call (.f 26) [.t 23, .c (.pv (.str [70, 111, 114, 109])), .t 24], none, 3⟩,
   ⟨(some 22), .mv (.t 25), none, 7⟩,
   ⟨(some 26), .extract (.t 22) 0, none, 15⟩,
   ⟨(some 27), .extract (.t 22) 1, none, 15⟩,
   ⟨(some 5), .alloc [.pv (.int .i64 (0)), .pv (.bool false), .pv (.int .i64 (0)), .pv (.str []), .pv (.int .i64 (0)), .pv (.int .i64 (0)), .pv (.int .i64 (0))], none, 0⟩,
   ⟨none, .store 7 (.t 5) (.t 26), none, 95⟩,
   ⟨(some 6), .mv (.t 27), none, 255⟩] true)
 (.seq (.reg [⟨(some 28), .mv (.t 2), none, 0⟩,
   ⟨(some 29), .bin .eql (.t 28) (.c (.pv (.int .i64 (0)))), none, 1⟩,
   ⟨(some 30), .mv (.t 29), none, 3⟩,
   ⟨(some 31), .faddr (.t 1) 0, (some (30, true)), 7⟩,
   ⟨(some 32), .load false 1 (.t 31), (some (30, true)), 15⟩,
   ⟨(some 33), .call (.f 22) [.c (.pv (.int .i64 (10)))], (some (30, true)), 7⟩,
   ⟨(some 34), .bsl 7 1 [.pv (.int .i64 (0)), .pv (.bool false), .pv (.int .i64 (0)), .pv (.str []), .pv (.int .i64 (0)), .pv (.int .i64 (0)), .pv (.int .i64 (0))] [(0, .t 33)], (some (30, true)), 39⟩,
   ⟨(some 35), .call (.f 16) [.t 32, .t 34], (some (30, true)), 127⟩,
   ⟨(some 36), .pick (.t 30) (.t 35) (.c (.pv (.bool false))), none, 255⟩,
   ⟨(some 37), .mv (.t 36), none, 511⟩,
   ⟨(some 38), .mv (.t 4), (some (37, true)), 1023⟩,
   ⟨(some 39), .bin .eql (.t 38) (.c (.pv (.int .i64 (0)))), (some (37, true)), 2047⟩,
   ⟨(some 40), .pick (.t 37) (.t 39) (.c (.pv (.bool false))), none, 4095⟩,
   ⟨(some 41), .mv (.t 40), none, 8191⟩,
   ⟨(some 42), .load true 7 (.t 3), (some (41, true)), 16383⟩,
   ⟨(some 43), .call (.f 22) [.c (.pv (.int .i64 (10)))], (some (41, true)), 16383⟩,
   ⟨(some 44), .eqs false [0, 1, 0, 2, 0, 0, 0] (.t 42) (.t 43), (some (41, true)), 65535⟩,
   ⟨(some 45), .pick (.t 41) (.t 44) (.c (.pv (.bool false))), none, 131071⟩,
   ⟨(some 46), .mv (.t 45), none, 262143⟩,
   ⟨(some 47), .mv (.t 6), (some (46, true)), 524287⟩,
   ⟨(some 48), .bin .eql (.t 47) (.c (.pv (.int .i64 (40)))), (some (46, true)), 1048575⟩,
   ⟨(some 49), .pick (.t 46) (.t 48) (.c (.pv (.bool false))), none, 2097151⟩,
   ⟨(some 50), .mv (.t 49), none, 4194303⟩,
   ⟨(some 51), .load true 67 (.t 1), (some (50, true)), 8388607⟩,
   ⟨(some 52), .call (.f 21) [.c (.pv (.str [70]))], (some (50, true)), 8388607⟩,
   ⟨(some 53), .call (.f 21) [.c (.pv (.str [70, 111, 110, 116]))], (some (50, true)), 25165823⟩,
   ⟨(some 54), .bsl 7 2 [.pv (.int .i64 (0)), .pv (.bool false), .pv (.int .i64 (0)), .pv (.str []), .pv (.int .i64 (0)), .pv (.int .i64 (0)), .pv (.int .i64 (0))] [(0, .t 52), (1, .t 53)], (some (50, true)), 58720255⟩,
   ⟨(some 55), .call (.f 23) [.t 51, .t 54], (some (50, true)), 134217727⟩,
   ⟨(some 56), .call (.f 22) [.c (.pv (.int .i64 (10)))], (some (50, true)), 268435455⟩,
   ⟨(some 57), .bsl 7 1 [.pv (.int .i64 (0)), .pv (.bool false), .pv (.int .i64 (0)), .pv (.str []), .pv (.int .i64 (0)), .pv (.int .i64 (0)), .pv (.int .i64 (0))] [(0, .t 56)], (some (50, true)), 536870911⟩,
   ⟨(some 58), .call (.f 27) [.t 55, .c (.pv (.str [102, 105, 110, 100, 114, 101, 115, 111, 117, 114, 99, 101])), .t 57], (some (50, true)), 1073741823⟩,
   ⟨(some 59), .pick (.t 50) (.t 58) (.c (.pv (.bool false))), none, 2147483647⟩,
   ⟨(some 60), .mv (.t 59), none, 4294967295⟩,
   ⟨(some 61), .load true 67 (.t 1), (some (60, true)), 8589934591⟩,
   ⟨(some 62), .call (.f 21) [.c (.pv (.str [70]))], (some (60, true)), 8589934591⟩,
   ⟨(some 63), .call (.f 21) [.c (.pv (.str [70, 111, 114, 109]))], (some (60, true)), 25769803775⟩,
   ⟨(some 64), .bsl 7 2 [.pv (.int .i64 (0)), .pv (.bool false), .pv (.int .i64 (0)), .pv (.str []), .pv (.int .i64 (0)), .pv (.int .i64 (0)), .pv (.int .i64 (0))] [(0, .t 62), (1, .t 63)], (some (60, true)), 60129542143⟩,
   ⟨(some 65), .call (.f 23) [.t 61, .t 64], (some (60, true)), 137438953471⟩,
   ⟨(some 66), .call (.f 28) [.c (.pv (.bool false))], (some (60, true)), 274877906943⟩,
   ⟨(some 67), .bsl 7 1 [.pv (.int .i64 (0)), .pv (.bool false), .pv (.int .i64 (0)), .pv (.str []), .pv (.int .i64 (0)), .pv (.int .i64 (0)), .pv (.int .i64 (0))] [(0, .t 66)], (some (60, true)), 549755813887⟩,
   ⟨(some 68), .call (.f 27) [.t 65, .c (.pv (.str [114, 101, 115, 111, 117, 114, 99, 101, 115, 116, 97, 116, 117, 115])), .t 67], (some (60, true)), 1099511627775⟩,
   ⟨(some 69), .pick (.t 60) (.t 68) (.c (.pv (.bool false))), none, 2199023255551⟩,
   ⟨(some 70), .mv (.t 69), none, 4398046511103⟩,
   ⟨(some 71), .call (.f 21) [.c (.pv (.str [70]))], (some (70, true)), 8796093022207⟩,
   ⟨(some 72), .call (.f 25) [.c (.pv (.int .i64 (1)))], (some (70, true)), 17592186044415⟩,
   ⟨(some 73), .call (.f 21) [.c (.pv (.str [70, 111, 110, 116]))], (some (70, true)), 35184372088831⟩,
   ⟨(some 74), .bsl 7 3 [.pv (.int .i64 (0)), .pv (.bool false), .pv (.int .i64 (0)), .pv (.str []), .pv (.int .i64 (0)), .pv (.int .i64 (0)), .pv (.int .i64 (0))] [(0, .t 71), (1, .t 72), (2, .t 73)], (some (70, true)), 70368744177663⟩,
   ⟨(some 75), .call (.f 20) [.t 74], (some (70, true)), 140737488355327⟩,
   ⟨(some 76), .call (.f 29) [.t 75, .c (.pv (.str [100, 101, 102, 105, 110, 101, 114, 101, 115, 111, 117, 114, 99, 101])), .c (.pv (.int .i64 (22)))], (some (70, true)), 281474976710655⟩,
   ⟨(some 77), .pick (.t 70) (.t 76) (.c (.pv (.bool false))), none, 562949953421311⟩,
   ⟨(some 78), .mv (.t 77), none, 1125899906842623⟩,
   ⟨(some 79), .call (.f 21) [.c (.pv (.str [70]))], (some (78, true)), 2251799813685247⟩,
   ⟨(some 80), .call (.f 21) [.c (.pv (.str [70, 111, 110, 116, 115]))], (some (78, true)), 4503599627370495⟩,
   ⟨(some 81), .bsl 7 2 [.pv (.int .i64 (0)), .pv (.bool false), .pv (.int .i64 (0)), .pv (.str []), .pv (.int .i64 (0)), .pv (.int .i64 (0)), .pv (.int .i64 (0))] [(0, .t 79), (1, .t 80)], (some (78, true)), 9007199254740991⟩,
   ⟨(some 82), .call (.f 20) [.t 81], (some (78, true)), 18014398509481983⟩,
   ⟨(some 83), .call (.f 29) [.t 82, .c (.pv (.str [102, 105, 110, 100, 114, 101, 115, 111, 117, 114, 99, 101])), .c (.pv (.int .i64 (24)))], (some (78, true)), 36028797018963967⟩,
   ⟨(some 84), .pick (.t 78) (.t 83) (.c (.pv (.bool false))), none, 72057594037927935⟩,
   ⟨(some 0), .mv (.t 84), none, 144115188075855871⟩] true)
 (.ret)))))⟩
def c18 : RFn := ⟨2, 8, [.cell 4 true 7],
 .seq (.reg [⟨(some 4), .alloc [.pv (.int .i64 (0)), .pv (.bool false), .pv (.int .i64 (0)), .pv (.str []), .pv (.int .i64 (0)), .pv (.int .i64 (0)), .pv (.int .i64 (0))], none, 0⟩] false)
 (.seq (.reg [⟨(some 5), .mv (.t 0), none, 0⟩,
   ⟨(some 6), .mv (.t 1), none, 0⟩,
   ⟨(some 7), .build [.pv (.int .i64 (0)), .pv (.bool false), .pv (.int .i64 (0)), .pv (.str []), .pv (.int .i64 (0)), .pv (.int .i64 (0)), .pv (.int .i64 (0))] [(0, 1, .c (.pv (.int .i64 (6)))), (4, 1, .c (.pv (.int .i64 (11)))), (5, 1, .t 5), (6, 1, .t 6)], none, 3⟩,
   ⟨none, .store 7 (.t 4) (.t 7), none, 7⟩] false)
 (.ret))⟩
def c19 : RFn := ⟨2, 48, [.cell 4 true 67, .tmp 5],
 .seq (.reg [⟨(some 2), .box 67 (.t 0), none, 0⟩,
   ⟨(some 4), .alloc [.emp 7, .emp 7, .emp 7, .emp 3, .pv (.int .i64 (0)), .pv (.int .i64 (0)), .pv (.int .i64 (0)), .pv (.int .i64 (0)), .pv (.int .i64 (0)), .pv (.int .i64 (0)), .pv (.int .i64 (0)), .emp 7, .pv (.int .i64 (0)), .pv (.int .i64 (0)), .pv (.int .i64 (0)), .pv (.int .i64 (0)), .pv (.int .i64 (0)), .pv (.int .i64 (0)), .pv (.int .i64 (0)), .pv (.int .i64 (0)), .pv (.int .i64 (0)), .pv (.int .i64 (0)), .pv (.int .i64 (0)), .pv (.int .i64 (0)), .pv (.int .i64 (0)), .pv (.int .i64 (0)), .pv (.int .i64 (0)), .pv (.int .i64 (0)), .pv (.int .i64 (0)), .pv (.int .i64 (0)), .pv (.int .i64 (0)), .pv (.int .i64 (0)), .pv (.bool false), .pv (.bool false), .emp 47, .pv (.int .i64 (0)), .pv (.int .i64 (0)), .pv (.int .i64 (0)), .pv (.int .i64 (0)), .pv (.int .i64 (0)), .pv (.int .i64 (0)), .pv (.int .i64 (0)), .pv (.int .i64 (0)), .emp 1, .pv (.int .i64 (0)), .pv (.int .i64 (0)), .emp 2, .pv (.int .i64 (0)), .pv (.bool false), .pv (.int .i64 (0)), .pv (.str []), .pv (.int .i64 (0)), .pv (.int .i64 (0)), .pv (.int .i64 (0)), .pv (.int .i64 (0)), .pv (.int .i64 (0)), .pv (.int .i64 (0)), .pv (.int .i64 (0)), .pv (.int .i64 (0)), .pv (.int .i64 (0)), .pv (.int .i64 (0)), .pv (.int .i64 (0)), .emp 57, .emp 47, .emp 3, .pv (.str []), .pv (.int .i64 (0))], none, 0⟩,
   ⟨(some 5), .mv (.c (.pv (.int .i64 (0)))), none, 0⟩] false)
 (.seq (.reg [⟨(some 12), .load true 67 (.t 2), none, 0⟩,
   ⟨(some 13), .build [.emp 7, .emp 7, .emp 7, .emp 3, .pv (.int .i64 (0)), .pv (.int .i64 (0)), .pv (.int .i64 (0)), .pv (.int .i64 (0)), .pv (.int .i64 (0)), .pv (.int .i64 (0)), .pv (.int .i64 (0)), .emp 7, .pv (.int .i64 (0)), .pv (.int .i64 (0)), .pv (.int .i64 (0)), .pv (.int .i64 (0)), .pv (.int .i64 (0)), .pv (.int .i64 (0)), .pv (.int .i64 (0)), .pv (.int .i64 (0)), .pv (.int .i64 (0)), .pv (.int .i64 (0)), .pv (.int .i64 (0)), .pv (.int .i64 (0)), .pv (.int .i64 (0)), .pv (.int .i64 (0)), .pv (.int .i64 (0)), .pv (.int .i64 (0)), .pv (.int .i64 (0)), .pv (.int .i64 (0)), .pv (.int .i64 (0)), .pv (.int .i64 (0)), .pv (.bool false), .pv (.bool false), .emp 47, .pv (.int .i64 (0)), .pv (.int .i64 (0)), .pv (.int .i64 (0)), .pv (.int .i64 (0)), .pv (.int .i64 (0)), .pv (.int .i64 (0)), .pv (.int .i64 (0)), .pv (.int .i64 (0)), .emp 1, .pv (.int .i64 (0)), .pv (.int .i64 (0)), .emp 2, .pv (.int .i64 (0)), .pv (.bool false), .pv (.int .i64 (0)), .pv (.str []), .pv (.int .i64 (0)), .pv (.int .i64 (0)), .pv (.int .i64 (0)), .pv (.int .i64 (0)), .pv (.int .i64 (0)), .pv (.int .i64 (0)), .pv (.int .i64 (0)), .pv (.int .i64 (0)), .pv (.int .i64 (0)), .pv (.int .i64 (0)), .pv (.int .i64 (0)), .emp 57, .emp 47, .emp 3, .pv (.str []), .pv (.int .i64 (0))] [(0, 67, .t 12)], none, 1⟩,
   ⟨(some 6), .alloc [.emp 7, .emp 7, .emp 7, .emp 3, .pv (.int .i64 (0)), .pv (.int .i64 (0)), .pv (.int .i64 (0)), .pv (.int .i64 (0)), .pv (.int .i64 (0)), .pv (.int .i64 (0)), .pv (.int .i64 (0)), .emp 7, .pv (.int .i64 (0)), .pv (.int .i64 (0)), .pv (.int .i64 (0)), .pv (.int .i64 (0)), .pv (.int .i64 (0)), .pv (.int .i64 (0)), .pv (.int .i64 (0)), .pv (.int .i64 (0)), .pv (.int .i64 (0)), .pv (.int .i64 (0)), .pv (.int .i64 (0)), .pv (.int .i64 (0)), .pv (.int .i64 (0)), .pv (.int .i64 (0)), .pv (.int .i64 (0)), .pv (.int .i64 (0)), .pv (.int .i64 (0)), .pv (.int .i64 (0)), .pv (.int .i64 (0)), .pv (.int .i64 (0)), .pv (.bool false), .pv (.bool false), .emp 47, .pv (.int .i64 (0)), .pv (.int .i64 (0)), .pv (.int .i64 (0)), .pv (.int .i64 (0)), .pv (.int .i64 (0)), .pv (.int .i64 (0)), .pv (.int .i64 (0)), .pv (.int .i64 (0)), .emp 1, .pv (.int .i64 (0)), .pv (.int .i64 (0)), .emp 2, .pv (.int .i64 (0)), .pv (.bool false), .pv (.int .i64 (0)), .pv (.str []), .pv (.int .i64 (0)), .pv (.int .i64 (0)), .pv (.int .i64 (0)), .pv (.int .i64 (0)), .pv (.int .i64 (0)), .pv (.int .i64 (0)), .pv (.int .i64 (0)), .pv (.int .i64 (0)), .pv (.int .i64 (0)), .pv (.int .i64 (0)), .pv (.int .i64 (0)), .emp 57, .emp 47, .emp 3, .pv (.str []), .pv (.int .i64 (0))], none, 0⟩,
   ⟨none, .store 67 (.t 6) (.t 13), none, 7⟩] false)
 (.seq (.reg [⟨(some 14), .load true 67 (.t 6), none, 0⟩,
   ⟨(some 15), .mkf (.func 51) [.t 14] [], none, 1⟩,
   ⟨(some 7), .alloc [.pv .nilFunc], none, 0⟩,
   ⟨none, .store 1 (.t 7) (.t 15), none, 7⟩] false)
 (.seq (.reg [⟨(some 16), .mkf (.func 52) [] [.t 7, .t 2], none, 0⟩,
   ⟨(some 8), .mv (.t 16), none, 1⟩] false)
 (.seq (.reg [⟨(some 17), .mkmap, none, 0⟩,
   ⟨(some 18), .mv (.t 8), none, 0⟩,
   ⟨(some 19), .load true 67 (.t 6), none, 0⟩,
   ⟨(some 20), .mkf (.func 54) [.t 19] [], none, 4⟩,
   ⟨(some 21), .call (.t 18) [.c (.pv (.int .i64 (3))), .t 20], none, 14⟩,
   ⟨none, .insert (.t 17) (.c (.pv (.str [100, 101, 102, 105, 110, 101, 114, 101, 115, 111, 117, 114, 99, 101]))) (.t 21), none, 31⟩,
   ⟨(some 22), .mv (.t 8), none, 0⟩,
   ⟨(some 23), .load true 67 (.t 6), none, 0⟩,
   ⟨(some 24), .mkf (.func 55) [.t 23] [], none, 128⟩,
   ⟨(some 25), .call (.t 22) [.c (.pv (.int .i64 (2))), .t 24], none, 478⟩,
   ⟨none, .insert (.t 17) (.c (.pv (.str [102, 105, 110, 100, 114, 101, 115, 111, 117, 114, 99, 101]))) (.t 25), none, 991⟩,
   ⟨(some 26), .mv (.t 8), none, 0⟩,
   ⟨(some 27), .load true 67 (.t 6), none, 0⟩,
   ⟨(some 28), .mkf (.func 56) [.t 27] [], none, 4096⟩,
   ⟨(some 29), .call (.t 26) [.c (.pv (.int .i64 (2))), .t 28], none, 15326⟩,
   ⟨none, .insert (.t 17) (.c (.pv (.str [117, 110, 100, 101, 102, 105, 110, 101, 114, 101, 115, 111, 117, 114, 99, 101]))) (.t 29), none, 31711⟩,
   ⟨(some 30), .mv (.t 8), none, 0⟩,
   ⟨(some 31), .load true 67 (.t 6), none, 0⟩,
   ⟨(some 32), .mkf (.func 57) [.t 31] [], none, 131072⟩,
   ⟨(some 33), .call (.t 30) [.c (.pv (.int .i64 (2))), .t 32], none, 490462⟩,
   ⟨none, .insert (.t 17) (.c (.pv (.str [114, 101, 115, 111, 117, 114, 99, 101, 115, 116, 97, 116, 117, 115]))) (.t 33), none, 1014751⟩,
   ⟨(some 34), .mv (.t 17), none, 2097151⟩,
   ⟨(some 9), .mv (.t 34), none, 4194303⟩] true)
 (.seq (.reg [⟨(some 36), .mv (.t 9), none, 0⟩,
   ⟨(some 37), .mv (.t 1), none, 0⟩,
   ⟨(some 38), .lookup (.t 36) (.t 37) (.pv .nilFunc), none, 3⟩,
   ⟨(some 35), .mv (.t 38), none, 7⟩,
   ⟨(some 39), .extract (.t 35) 0, none, 15⟩,
   ⟨(some 40), .extract (.t 35) 1, none, 15⟩,
   ⟨(some 10), .mv (.t 39), none, 31⟩,
   ⟨(some 11), .mv (.t 40), none, 127⟩] false)
 (.seq (.seq (.reg [⟨(some 41), .mv (.t 11), none, 0⟩,
   ⟨(some 42), .not (.t 41), none, 1⟩] false)
 (.cond (.t 42)
  (.seq (.reg [⟨(some 43), .load true 67 (.t 2), none, 0⟩,
    ⟨none, .store 67 (.t 4) (.t 43), none, 1⟩,
    ⟨(some 5), .mv (.c (.pv (.int .i64 (24)))), none, 3⟩] false)
  (.ret))
  (.skip)))
 (.seq (.reg [⟨(some 44), .mv (.t 10), none, 0⟩,
   ⟨(some 45), .call (.t 44) [], none, 1⟩,
   ⟨(some 46), .extract (.t 45) 0, none, 3⟩,
   ⟨(some 47), .extract (.t 45) 1, none, 3⟩,
   ⟨none, .store 67 (.t 4) (.t 46), none, 15⟩,
   ⟨(some 5), .mv (.t 47), none, 31⟩] false)
 (.ret))))))))⟩
def c20 : RFn := ⟨1, 15, [.cell 2 true 67],
 .seq (.reg [⟨(some 2), .alloc [.emp 7, .emp 7, .emp 7, .emp 3, .pv (.int .i64 (0)), .pv (.int .i64 (0)), .pv (.int .i64 (0)), .pv (.int .i64 (0)), .pv (.int .i64 (0)), .pv (.int .i64 (0)), .pv (.int .i64 (0)), .emp 7, .pv (.int .i64 (0)), .pv (.int .i64 (0)), .pv (.int .i64 (0)), .pv (.int .i64 (0)), .pv (.int .i64 (0)), .pv (.int .i64 (0)), .pv (.int .i64 (0)), .pv (.int .i64 (0)), .pv (.int .i64 (0)), .pv (.int .i64 (0)), .pv (.int .i64 (0)), .pv (.int .i64 (0)), .pv (.int .i64 (0)), .pv (.int .i64 (0)), .pv (.int .i64 (0)), .pv (.int .i64 (0)), .pv (.int .i64 (0)), .pv (.int .i64 (0)), .pv (.int .i64 (0)), .pv (.int .i64 (0)), .pv (.bool false), .pv (.bool false), .emp 47, .pv (.int .i64 (0)), .pv (.int .i64 (0)), .pv (.int .i64 (0)), .pv (.int .i64 (0)), .pv (.int .i64 (0)), .pv (.int .i64 (0)), .pv (.int .i64 (0)), .pv (.int .i64 (0)), .emp 1, .pv (.int .i64 (0)), .pv (.int .i64 (0)), .emp 2, .pv (.int .i64 (0)), .pv (.bool false), .pv (.int .i64 (0)), .pv (.str []), .pv (.int .i64 (0)), .pv (.int .i64 (0)), .pv (.int .i64 (0)), .pv (.int .i64 (0)), .pv (.int .i64 (0)), .pv (.int .i64 (0)), .pv (.int .i64 (0)), .pv (.int .i64 (0)), .pv (.int .i64 (0)), .pv (.int .i64 (0)), .pv (.int .i64 (0)), .emp 57, .emp 47, .emp 3, .pv (.str []), .pv (.int .i64 (0))], none, 0⟩] false)
 (.seq (.reg [⟨(some 4), .call (.f 49) [.c (.emp 1)], none, 0⟩,
   ⟨(some 5), .build [.pv (.int .i64 (0)), .pv (.str []), .emp 7, .emp 7, .emp 7, .pv (.int .i64 (0)), .pv (.int .i64 (0))] [(0, 1, .c (.pv (.int .i64 (3)))), (5, 1, .c (.pv (.int .i64 (3))))], none, 0⟩,
   ⟨(some 6), .build [.pv (.int .i64 (0)), .pv (.str []), .emp 7, .emp 7, .emp 7, .pv (.int .i64 (0)), .pv (.int .i64 (0))] [(0, 1, .c (.pv (.int .i64 (1)))), (1, 1, .c (.pv (.str [70, 70, 111, 110, 116])))], none, 0⟩,
   ⟨(some 7), .bsl 7 2 [.pv (.int .i64 (0)), .pv (.str []), .emp 7, .emp 7, .emp 7, .pv (.int .i64 (0)), .pv (.int .i64 (0))] [(0, .t 5), (1, .t 6)], none, 6⟩,
   ⟨(some 8), .append 7 112 (.t 4) (.t 7), none, 15⟩,
   ⟨(some 3), .mv (.t 8), none, 31⟩] false)
 (.seq (.reg [⟨(some 9), .mv (.t 3), none, 0⟩,
   ⟨(some 10), .call (.f 22) [.c (.pv (.int .i64 (0)))], none, 0⟩,
   ⟨(some 11), .call (.f 22) [.c (.pv (.int .i64 (1)))], none, 2⟩,
   ⟨(some 12), .bsl 7 2 [.pv (.int .i64 (0)), .pv (.bool false), .pv (.int .i64 (0)), .pv (.str []), .pv (.int .i64 (0)), .pv (.int .i64 (0)), .pv (.int .i64 (0))] [(0, .t 10), (1, .t 11)], none, 6⟩,
   ⟨(some 13), .mv (.t 0), none, 0⟩,
   ⟨(some 14), .build [.emp 7, .emp 7, .emp 7, .emp 3, .pv (.int .i64 (0)), .pv (.int .i64 (0)), .pv (.int .i64 (0)), .pv (.int .i64 (0)), .pv (.int .i64 (0)), .pv (.int .i64 (0)), .pv (.int .i64 (0)), .emp 7, .pv (.int .i64 (0)), .pv (.int .i64 (0)), .pv (.int .i64 (0)), .pv (.int .i64 (0)), .pv (.int .i64 (0)), .pv (.int .i64 (0)), .pv (.int .i64 (0)), .pv (.int .i64 (0)), .pv (.int .i64 (0)), .pv (.int .i64 (0)), .pv (.int .i64 (0)), .pv (.int .i64 (0)), .pv (.int .i64 (0)), .pv (.int .i64 (0)), .pv (.int .i64 (0)), .pv (.int .i64 (0)), .pv (.int .i64 (0)), .pv (.int .i64 (0)), .pv (.int .i64 (0)), .pv (.int .i64 (0)), .pv (.bool false), .pv (.bool false), .emp 47, .pv (.int .i64 (0)), .pv (.int .i64 (0)), .pv (.int .i64 (0)), .pv (.int .i64 (0)), .pv (.int .i64 (0)), .pv (.int .i64 (0)), .pv (.int .i64 (0)), .pv (.int .i64 (0)), .emp 1, .pv (.int .i64 (0)), .pv (.int .i64 (0)), .emp 2, .pv (.int .i64 (0)), .pv (.bool false), .pv (.int .i64 (0)), .pv (.str []), .pv (.int .i64 (0)), .pv (.int .i64 (0)), .pv (.int .i64 (0)), .pv (.int .i64 (0)), .pv (.int .i64 (0)), .pv (.int .i64 (0)), .pv (.int .i64 (0)), .pv (.int .i64 (0)), .pv (.int .i64 (0)), .pv (.int .i64 (0)), .pv (.int .i64 (0)), .emp 57, .emp 47, .emp 3, .pv (.str []), .pv (.int .i64 (0))] [(2, 1, .t 9), (1, 1, .t 12), (0, 1, .t 13)], none, 31⟩,
   ⟨none, .store 67 (.t 2) (.t 14), none, 63⟩] false)
 (.ret)))⟩
def c21 : RFn := ⟨1, 5, [.cell 2 true 7],
 .seq (.reg [⟨(some 2), .alloc [.pv (.int .i64 (0)), .pv (.bool false), .pv (.int .i64 (0)), .pv (.str []), .pv (.int .i64 (0)), .pv (.int .i64 (0)), .pv (.int .i64 (0))], none, 0⟩] false)
 (.seq (.reg [⟨(some 3), .mv (.t 0), none, 0⟩,
   ⟨(some 4), .build [.pv (.int .i64 (0)), .pv (.bool false), .pv (.int .i64 (0)), .pv (.str []), .pv (.int .i64 (0)), .pv (.int .i64 (0)), .pv (.int .i64 (0))] [(0, 1, .c (.pv (.int .i64 (5)))), (3, 1, .t 3)], none, 1⟩,
   ⟨none, .store 7 (.t 2) (.t 4), none, 3⟩] false)
 (.ret))⟩
def c22 : RFn := ⟨1, 5, [.cell 2 true 7],
 .seq (.reg [⟨(some 2), .alloc [.pv (.int .i64 (0)), .pv (.bool false), .pv (.int .i64 (0)), .pv (.str []), .pv (.int .i64 (0)), .pv (.int .i64 (0)), .pv (.int .i64 (0))], none, 0⟩] false)
 (.seq (.reg [⟨(some 3), .mv (.t 0), none, 0⟩,
   ⟨(some 4), .build [.pv (.int .i64 (0)), .pv (.bool false), .pv (.int .i64 (0)), .pv (.str []), .pv (.int .i64 (0)), .pv (.int .i64 (0)), .pv (.int .i64 (0))] [(0, 1, .c (.pv (.int .i64 (9)))), (4, 1, .t 3)], none, 1⟩,
   ⟨none, .store 7 (.t 2) (.t 4), none, 3⟩] false)
 (.ret))⟩
def c23 : RFn := ⟨2, 8, [.cell 4 true 67],
 .seq (.reg [⟨(some 2), .box 67 (.t 0), none, 0⟩,
   ⟨(some 4), .alloc [.emp 7, .emp 7, .emp 7, .emp 3, .pv (.int .i64 (0)), .pv (.int .i64 (0)), .pv (.int .i64 (0)), .pv (.int .i64 (0)), .pv (.int .i64 (0)), .pv (.int .i64 (0)), .pv (.int .i64 (0)), .emp 7, .pv (.int .i64 (0)), .pv (.int .i64 (0)), .pv (.int .i64 (0)), .pv (.int .i64 (0)), .pv (.int .i64 (0)), .pv (.int .i64 (0)), .pv (.int .i64 (0)), .pv (.int .i64 (0)), .pv (.int .i64 (0)), .pv (.int .i64 (0)), .pv (.int .i64 (0)), .pv (.int .i64 (0)), .pv (.int .i64 (0)), .pv (.int .i64 (0)), .pv (.int .i64 (0)), .pv (.int .i64 (0)), .pv (.int .i64 (0)), .pv (.int .i64 (0)), .pv (.int .i64 (0)), .pv (.int .i64 (0)), .pv (.bool false), .pv (.bool false), .emp 47, .pv (.int .i64 (0)), .pv (.int .i64 (0)), .pv (.int .i64 (0)), .pv (.int .i64 (0)), .pv (.int .i64 (0)), .pv (.int .i64 (0)), .pv (.int .i64 (0)), .pv (.int .i64 (0)), .emp 1, .pv (.int .i64 (0)), .pv (.int .i64 (0)), .emp 2, .pv (.int .i64 (0)), .pv (.bool false), .pv (.int .i64 (0)), .pv (.str []), .pv (.int .i64 (0)), .pv (.int .i64 (0)), .pv (.int .i64 (0)), .pv (.int .i64 (0)), .pv (.int .i64 (0)), .pv (.int .i64 (0)), .pv (.int .i64 (0)), .pv (.int .i64 (0)), .pv (.int .i64 (0)), .pv (.int .i64 (0)), .pv (.int .i64 (0)), .emp 57, .emp 47, .emp 3, .pv (.str []), .pv (.int .i64 (0))], none, 0⟩] false)
 (.seq (.reg [⟨(some 5), .mv (.t 1), none, 0⟩,
   ⟨(some 6), .faddr (.t 2) 0, none, 1⟩,
   ⟨none, .store 1 (.t 6) (.t 5), none, 3⟩] false)
 (.seq (.reg [⟨(some 7), .load true 67 (.t 2), none, 0⟩,
   ⟨none, .store 67 (.t 4) (.t 7), none, 1⟩] false)
 (.ret)))⟩
def c24 : RFn := ⟨1, 8, [.tmp 2],
 .seq (.reg [⟨(some 2), .mv (.c (.emp 7)), none, 0⟩] false)
 (.seq (.seq (.reg [⟨(some 3), .mv (.t 0), none, 0⟩,
   ⟨(some 4), .isnil false (.t 3), none, 1⟩] false)
 (.cond (.t 4)
  (.seq (.reg [⟨(some 2), .mv (.c (.emp 7)), none, 0⟩] false)
  (.ret))
  (.skip)))
 (.seq (.reg [⟨(some 5), .bsl 7 0 [.pv (.int .i64 (0)), .pv (.str []), .emp 7, .emp 7, .emp 7, .pv (.int .i64 (0)), .pv (.int .i64 (0))] [], none, 0⟩,
   ⟨(some 6), .mv (.t 0), none, 0⟩,
   ⟨(some 7), .append 7 112 (.t 5) (.t 6), none, 3⟩,
   ⟨(some 2), .mv (.t 7), none, 7⟩] false)
 (.ret)))⟩
def c25 : RFn := ⟨1, 5, [.cell 2 true 7],
 .seq (.reg [⟨(some 2), .alloc [.pv (.int .i64 (0)), .pv (.bool false), .pv (.int .i64 (0)), .pv (.str []), .pv (.int .i64 (0)), .pv (.int .i64 (0)), .pv (.int .i64 (0))], none, 0⟩] false)
 (.seq (.reg [⟨(some 3), .mv (.t 0), none, 0⟩,
   ⟨(some 4), .build [.pv (.int .i64 (0)), .pv (.bool false), .pv (.int .i64 (0)), .pv (.str []), .pv (.int .i64 (0)), .pv (.int .i64 (0)), .pv (.int .i64 (0))] [(0, 1, .c (.pv (.int .i64 (3)))), (2, 1, .t 3)], none, 1⟩,
   ⟨none, .store 7 (.t 2) (.t 4), none, 3⟩] false)
 (.ret))⟩
def c26 : RFn := ⟨3, 30, [.cell 6 true 7, .tmp 7],
 .seq (.reg [⟨(some 3), .box 67 (.t 0), none, 0⟩,
   ⟨(some 5), .box 7 (.t 2), none, 0⟩,
   ⟨(some 6), .alloc [.pv (.int .i64 (0)), .pv (.bool false), .pv (.int .i64 (0)), .pv (.str []), .pv (.int .i64 (0)), .pv (.int .i64 (0)), .pv (.int .i64 (0))], none, 0⟩,
   ⟨(some 7), .mv (.c (.pv (.int .i64 (0)))), none, 0⟩] false)
 (.seq (.reg [⟨(some 11), .load true 67 (.t 3), none, 0⟩,
   ⟨(some 12), .build [.emp 7, .emp 7, .emp 7, .emp 3, .pv (.int .i64 (0)), .pv (.int .i64 (0)), .pv (.int .i64 (0)), .pv (.int .i64 (0)), .pv (.int .i64 (0)), .pv (.int .i64 (0)), .pv (.int .i64 (0)), .emp 7, .pv (.int .i64 (0)), .pv (.int .i64 (0)), .pv (.int .i64 (0)), .pv (.int .i64 (0)), .pv (.int .i64 (0)), .pv (.int .i64 (0)), .pv (.int .i64 (0)), .pv (.int .i64 (0)), .pv (.int .i64 (0)), .pv (.int .i64 (0)), .pv (.int .i64 (0)), .pv (.int .i64 (0)), .pv (.int .i64 (0)), .pv (.int .i64 (0)), .pv (.int .i64 (0)), .pv (.int .i64 (0)), .pv (.int .i64 (0)), .pv (.int .i64 (0)), .pv (.int .i64 (0)), .pv (.int .i64 (0)), .pv (.bool false), .pv (.bool false), .emp 47, .pv (.int .i64 (0)), .pv (.int .i64 (0)), .pv (.int .i64 (0)), .pv (.int .i64 (0)), .pv (.int .i64 (0)), .pv (.int .i64 (0)), .pv (.int .i64 (0)), .pv (.int .i64 (0)), .emp 1, .pv (.int .i64 (0)), .pv (.int .i64 (0)), .emp 2, .pv (.int .i64 (0)), .pv (.bool false), .pv (.int .i64 (0)), .pv (.str []), .pv (.int .i64 (0)), .pv (.int .i64 (0)), .pv (.int .i64 (0)), .pv (.int .i64 (0)), .pv (.int .i64 (0)), .pv (.int .i64 (0)), .pv (.int .i64 (0)), .pv (.int .i64 (0)), .pv (.int .i64 (0)), .pv (.int .i64 (0)), .pv (.int .i64 (0)), .emp 57, .emp 47, .emp 3, .pv (.str []), .pv (.int .i64 (0))] [(0, 67, .t 11)], none, 1⟩,
   ⟨(some 8), .alloc [.emp 7, .emp 7, .emp 7, .emp 3, .pv (.int .i64 (0)), .pv (.int .i64 (0)), .pv (.int .i64 (0)), .pv (.int .i64 (0)), .pv (.int .i64 (0)), .pv (.int .i64 (0)), .pv (.int .i64 (0)), .emp 7, .pv (.int .i64 (0)), .pv (.int .i64 (0)), .pv (.int .i64 (0)), .pv (.int .i64 (0)), .pv (.int .i64 (0)), .pv (.int .i64 (0)), .pv (.int .i64 (0)), .pv (.int .i64 (0)), .pv (.int .i64 (0)), .pv (.int .i64 (0)), .pv (.int .i64 (0)), .pv (.int .i64 (0)), .pv (.int .i64 (0)), .pv (.int .i64 (0)), .pv (.int .i64 (0)), .pv (.int .i64 (0)), .pv (.int .i64 (0)), .pv (.int .i64 (0)), .pv (.int .i64 (0)), .pv (.int .i64 (0)), .pv (.bool false), .pv (.bool false), .emp 47, .pv (.int .i64 (0)), .pv (.int .i64 (0)), .pv (.int .i64 (0)), .pv (.int .i64 (0)), .pv (.int .i64 (0)), .pv (.int .i64 (0)), .pv (.int .i64 (0)), .pv (.int .i64 (0)), .emp 1, .pv (.int .i64 (0)), .pv (.int .i64 (0)), .emp 2, .pv (.int .i64 (0)), .pv (.bool false), .pv (.int .i64 (0)), .pv (.str []), .pv (.int .i64 (0)), .pv (.int .i64 (0)), .pv (.int .i64 (0)), .pv (.int .i64 (0)), .pv (.int .i64 (0)), .pv (.int .i64 (0)), .pv (.int .i64 (0)), .pv (.int .i64 (0)), .pv (.int .i64 (0)), .pv (.int .i64 (0)), .pv (.int .i64 (0)), .emp 57, .emp 47, .emp 3, .pv (.str []), .pv (.int .i64 (0))], none, 0⟩,
   ⟨none, .store 67 (.t 8) (.t 12), none, 7⟩] false)
 (.seq (.reg [⟨(some 14), .load true 67 (.t 8), none, 0⟩,
   ⟨(some 15), .mv (.t 1), none, 0⟩,
   ⟨(some 16), .build [.pv (.int .i64 (0)), .pv (.bool false), .pv (.int .i64 (0)), .pv (.str []), .pv (.int .i64 (0)), .pv (.int .i64 (0)), .pv (.int .i64 (0))] [(0, 1, .c (.pv (.int .i64 (5)))), (3, 1, .t 15)], none, 2⟩,
   ⟨(some 17), .call (.f 58) [.t 14, .t 16], none, 7⟩,
   ⟨(some 13), .mv (.t 17), none, 15⟩,
   ⟨(some 18), .extract (.t 13) 0, none, 31⟩,
   ⟨(some 19), .extract (.t 13) 1, none, 31⟩,
   ⟨(some 9), .alloc [.pv (.int .i64 (0)), .pv (.bool false), .pv (.int .i64 (0)), .pv (.str []), .pv (.int .i64 (0)), .pv (.int .i64 (0)), .pv (.int .i64 (0))], none, 0⟩,
   ⟨none, .store 7 (.t 9) (.t 18), none, 191⟩,
   ⟨(some 10), .mv (.t 19), none, 511⟩] false)
 (.seq (.seq (.reg [⟨(some 20), .mv (.t 10), none, 0⟩,
   ⟨(some 21), .bin .neq (.t 20) (.c (.pv (.int .i64 (0)))), none, 1⟩] false)
 (.cond (.t 21)
  (.seq (.reg [⟨(some 22), .build [.pv (.int .i64 (0)), .pv (.bool false), .pv (.int .i64 (0)), .pv (.str []), .pv (.int .i64 (0)), .pv (.int .i64 (0)), .pv (.int .i64 (0))] [], none, 0⟩,
    ⟨(some 23), .mv (.t 10), none, 0⟩,
    ⟨none, .store 7 (.t 6) (.t 22), none, 1⟩,
    ⟨(some 7), .mv (.t 23), none, 7⟩] false)
  (.ret))
  (.skip)))
 (.seq (.reg [⟨(some 24), .load true 67 (.t 8), none, 0⟩,
   ⟨(some 25), .load true 7 (.t 9), none, 0⟩,
   ⟨(some 26), .load true 7 (.t 5), none, 0⟩,
   ⟨(some 27), .call (.f 59) [.t 24, .t 25, .t 26], none, 7⟩,
   ⟨(some 28), .extract (.t 27) 0, none, 15⟩,
   ⟨(some 29), .extract (.t 27) 1, none, 15⟩,
   ⟨none, .store 7 (.t 6) (.t 28), none, 63⟩,
   ⟨(some 7), .mv (.t 29), none, 127⟩] false)
 (.ret)))))⟩
def c27 : RFn := ⟨3, 23, [.tmp 6],
 .seq (.reg [⟨(some 3), .box 67 (.t 0), none, 0⟩,
   ⟨(some 6), .mv (.c (.pv (.bool false))), none, 0⟩] false)
 (.seq (.reg [⟨(some 10), .load true 67 (.t 3), none, 0⟩,
   ⟨(some 11), .mv (.t 1), none, 0⟩,
   ⟨(some 12), .call (.f 19) [.t 10, .t 11], none, 3⟩,
   ⟨(some 9), .mv (.t 12), none, 7⟩,
   ⟨(some 13), .extract (.t 9) 0, none, 15⟩,
   ⟨(some 14), .extract (.t 9) 1, none, 15⟩,
   ⟨(some 7), .alloc [.emp 7, .emp 7, .emp 7, .emp 3, .pv (.int .i64 (0)), .pv (.int .i64 (0)), .pv (.int .i64 (0)), .pv (.int .i64 (0)), .pv (.int .i64 (0)), .pv (.int .i64 (0)), .pv (.int .i64 (0)), .emp 7, .pv (.int .i64 (0)), .pv (.int .i64 (0)), .pv (.int .i64 (0)), .pv (.int .i64 (0)), .pv (.int .i64 (0)), .pv (.int .i64 (0)), .pv (.int .i64 (0)), .pv (.int .i64 (0)), .pv (.int .i64 (0)), .pv (.int .i64 (0)), .pv (.int .i64 (0)), .pv (.int .i64 (0)), .pv (.int .i64 (0)), .pv (.int .i64 (0)), .pv (.int .i64 (0)), .pv (.int .i64 (0)), .pv (.int .i64 (0)), .pv (.int .i64 (0)), .pv (.int .i64 (0)), .pv (.int .i64 (0)), .pv (.bool false), .pv (.bool false), .emp 47, .pv (.int .i64 (0)), .pv (.int .i64 (0)), .pv (.int .i64 (0)), .pv (.int .i64 (0)), .pv (.int .i64 (0)), .pv (.int .i64 (0)), .pv (.int .i64 (0)), .pv (.int .i64 (0)), .emp 1, .pv (.int .i64 (0)), .pv (.int .i64 (0)), .emp 2, .pv (.int .i64 (0)), .pv (.bool false), .pv (.int .i64 (0)), .pv (.str []), .pv (.int .i64 (0)), .pv (.int .i64 (0)), .pv (.int .i64 (0)), .pv (.int .i64 (0)), .pv (.int .i64 (0)), .pv (.int .i64 (0)), .pv (.int .i64 (0)), .pv (.int .i64 (0)), .pv (.int .i64 (0)), .pv (.int .i64 (0)), .pv (.int .i64 (0)), .emp 57, .emp 47, .emp 3, .pv (.str []), .pv (.int .i64 (0))], none, 0⟩,
   ⟨none, .store 67 (.t 7) (.t 13), none, 95⟩,
   ⟨(some 8), .mv (.t 14), none, 255⟩] false)
 (.seq (.reg [⟨(some 15), .mv (.t 8), none, 0⟩,
   ⟨(some 16), .bin .eql (.t 15) (.c (.pv (.int .i64 (0)))), none, 1⟩,
   ⟨(some 17), .mv (.t 16), none, 3⟩,
   ⟨(some 18), .faddr (.t 7) 0, (some (17, true)), 7⟩,
   ⟨(some 19), .load false 1 (.t 18), (some (17, true)), 15⟩,
   ⟨(some 20), .mv (.t 2), (some (17, true)), 7⟩,
   ⟨(some 21), .call (.f 16) [.t 19, .t 20], (some (17, true)), 63⟩,
   ⟨(some 22), .pick (.t 17) (.t 21) (.c (.pv (.bool false))), none, 127⟩,
   ⟨(some 6), .mv (.t 22), none, 255⟩] false)
 (.ret)))⟩
def c28 : RFn := ⟨1, 6, [.cell 2 true 7],
 .seq (.reg [⟨(some 2), .alloc [.pv (.int .i64 (0)), .pv (.bool false), .pv (.int .i64 (0)), .pv (.str []), .pv (.int .i64 (0)), .pv (.int .i64 (0)), .pv (.int .i64 (0))], none, 0⟩] false)
 (.seq (.seq (.reg [⟨(some 3), .mv (.t 0), none, 0⟩] false)
 (.cond (.t 3)
  (.seq (.reg [⟨(some 4), .build [.pv (.int .i64 (0)), .pv (.bool false), .pv (.int .i64 (0)), .pv (.str []), .pv (.int .i64 (0)), .pv (.int .i64 (0)), .pv (.int .i64 (0))] [(0, 1, .c (.pv (.int .i64 (2)))), (2, 1, .c (.pv (.int .i64 (1))))], none, 0⟩,
    ⟨none, .store 7 (.t 2) (.t 4), none, 1⟩] false)
  (.ret))
  (.skip)))
 (.seq (.reg [⟨(some 5), .build [.pv (.int .i64 (0)), .pv (.bool false), .pv (.int .i64 (0)), .pv (.str []), .pv (.int .i64 (0)), .pv (.int .i64 (0)), .pv (.int .i64 (0))] [(0, 1, .c (.pv (.int .i64 (2))))], none, 0⟩,
   ⟨none, .store 7 (.t 2) (.t 5), none, 1⟩] false)
 (.ret)))⟩
def c29 : RFn := ⟨3, 23, [.tmp 6],
 .seq (.reg [⟨(some 3), .box 67 (.t 0), none, 0⟩,
   ⟨(some 6), .mv (.c (.pv (.bool false))), none, 0⟩] false)
 (.seq (.reg [⟨(some 10), .load true 67 (.t 3), none, 0⟩,
   ⟨(some 11), .mv (.t 1), none, 0⟩,
   ⟨(some 12), .call (.f 19) [.t 10, .t 11], none, 3⟩,
   ⟨(some 9), .mv (.t 12), none, 7⟩,
   ⟨(some 13), .extract (.t 9) 0, none, 15⟩,
   ⟨(some 14), .extract (.t 9) 1, none, 15⟩,
   ⟨(some 7), .alloc [.emp 7, .emp 7, .emp 7, .emp 3, .pv (.int .i64 (0)), .pv (.int .i64 (0)), .pv (.int .i64 (0)), .pv (.int .i64 (0)), .pv (.int .i64 (0)), .pv (.int .i64 (0)), .pv (.int .i64 (0)), .emp 7, .pv (.int .i64 (0)), .pv (.int .i64 (0)), .pv (.int .i64 (0)), .pv (.int .i64 (0)), .pv (.int .i64 (0)), .pv (.int .i64 (0)), .pv (.int .i64 (0)), .pv (.int .i64 (0)), .pv (.int .i64 (0)), .pv (.int .i64 (0)), .pv (.int .i64 (0)), .pv (.int .i64 (0)), .pv (.int .i64 (0)), .pv (.int .i64 (0)), .pv (.int .i64 (0)), .pv (.int .i64 (0)), .pv (.int .i64 (0)), .pv (.int .i64 (0)), .pv (.int .i64 (0)), .pv (.int .i64 (0)), .pv (.bool false), .pv (.bool false), .emp 47, .pv (.int .i64 (0)), .pv (.int .i64 (0)), .pv (.int .i64 (0)), .pv (.int .i64 (0)), .pv (.int .i64 (0)), .pv (.int .i64 (0)), .pv (.int .i64 (0)), .pv (.int .i64 (0)), .emp 1, .pv (.int .i64 (0)), .pv (.int .i64 (0)), .emp 2, .pv (.int .i64 (0)), .pv (.bool false), .pv (.int .i64 (0)), .pv (.str []), .pv (.int .i64 (0)), .pv (.int .i64 (0)), .pv (.int .i64 (0)), .pv (.int .i64 (0)), .pv (.int .i64 (0)), .pv (.int .i64 (0)), .pv (.int .i64 (0)), .pv (.int .i64 (0)), .pv (.int .i64 (0)), .pv (.int .i64 (0)), .pv (.int .i64 (0)), .emp 57, .emp 47, .emp 3, .pv (.str []), .pv (.int .i64 (0))], none, 0⟩,
   ⟨none, .store 67 (.t 7) (.t 13), none, 95⟩,
   ⟨(some 8), .mv (.t 14), none, 255⟩] false)
 (.seq (.reg [⟨(some 15), .mv (.t 8), none, 0⟩,
   ⟨(some 16), .mv (.t 2), none, 0⟩,
   ⟨(some 17), .bin .eql (.t 15) (.t 16), none, 3⟩,
   ⟨(some 18), .mv (.t 17), none, 7⟩,
   ⟨(some 19), .load true 67 (.t 7), (some (18, true)), 15⟩,
   ⟨(some 20), .load true 67 (.t 3), (some (18, true)), 15⟩,
   ⟨(some 21), .call (.f 44) [.t 19, .t 20], (some (18, true)), 63⟩,
   ⟨(some 22), .pick (.t 18) (.t 21) (.c (.pv (.bool false))), none, 127⟩,
   ⟨(some 6), .mv (.t 22), none, 255⟩] false)
 (.ret)))⟩
def c38 : RFn := ⟨2, 34, [.cell 4 true 7, .tmp 5],
 .seq (.reg [⟨(some 3), .box 7 (.t 1), none, 0⟩,
   ⟨(some 4), .alloc [.pv (.int .i64 (0)), .pv (.bool false), .pv (.int .i64 (0)), .pv (.str []), .pv (.int .i64 (0)), .pv (.int .i64 (0)), .pv (.int .i64 (0))], none, 0⟩,
   ⟨(some 5), .mv (.c (.pv (.int .i64 (0)))), none, 0⟩] false)
 (.seq (.seq (.reg [⟨(some 8), .mv (.t 0), none, 0⟩,
   ⟨(some 9), .load true 7 (.t 3), none, 0⟩,
   ⟨(some 10), .call (.f 41) [.t 8, .t 9], none, 3⟩,
   ⟨(some 11), .not (.t 10), none, 7⟩] false)
 (.cond (.t 11)
  (.seq (.reg [⟨(some 12), .build [.pv (.int .i64 (0)), .pv (.bool false), .pv (.int .i64 (0)), .pv (.str []), .pv (.int .i64 (0)), .pv (.int .i64 (0)), .pv (.int .i64 (0))] [], none, 0⟩,
    ⟨none, .store 7 (.t 4) (.t 12), none, 1⟩,
    ⟨(some 5), .mv (.c (.pv (.int .i64 (2)))), none, 3⟩] false)
  (.ret))
  (.skip)))
 (.seq (.seq (.reg [⟨(some 13), .faddr (.t 3) 0, none, 0⟩,
   ⟨(some 14), .load false 1 (.t 13), none, 1⟩,
   ⟨(some 15), .bin .neq (.t 14) (.c (.pv (.int .i64 (6)))), none, 3⟩] false)
 (.cond (.t 15)
  (.seq (.reg [⟨(some 16), .load true 7 (.t 3), none, 0⟩,
    ⟨(some 17), .call (.f 73) [.t 16], none, 1⟩,
    ⟨(some 18), .extract (.t 17) 0, none, 3⟩,
    ⟨(some 19), .extract (.t 17) 1, none, 3⟩,
    ⟨none, .store 7 (.t 4) (.t 18), none, 15⟩,
    ⟨(some 5), .mv (.t 19), none, 31⟩] false)
  (.ret))
  (.skip)))
 (.seq (.reg [⟨(some 21), .mv (.t 0), none, 0⟩,
   ⟨(some 22), .load true 7 (.t 3), none, 0⟩,
   ⟨(some 23), .call (.f 60) [.t 21, .t 22], none, 3⟩,
   ⟨(some 20), .mv (.t 23), none, 7⟩,
   ⟨(some 24), .extract (.t 20) 0, none, 15⟩,
   ⟨(some 25), .extract (.t 20) 1, none, 15⟩,
   ⟨(some 6), .mv (.t 24), none, 31⟩,
   ⟨(some 7), .mv (.t 25), none, 127⟩] false)
 (.seq (.seq (.reg [⟨(some 26), .mv (.t 6), none, 0⟩,
   ⟨(some 27), .strlen (.t 26), none, 1⟩,
   ⟨(some 28), .bin .gtr (.t 27) (.c (.pv (.int .i64 (100)))), none, 3⟩] false)
 (.cond (.t 28)
  (.seq (.reg [⟨(some 29), .build [.pv (.int .i64 (0)), .pv (.bool false), .pv (.int .i64 (0)), .pv (.str []), .pv (.int .i64 (0)), .pv (.int .i64 (0)), .pv (.int .i64 (0))] [], none, 0⟩,
    ⟨none, .store 7 (.t 4) (.t 29), none, 1⟩,
    ⟨(some 5), .mv (.c (.pv (.int .i64 (23)))), none, 3⟩] false)
  (.ret))
  (.skip)))
 (.seq (.reg [⟨(some 30), .mv (.t 6), none, 0⟩,
   ⟨(some 31), .call (.f 74) [.t 30, .c (.pv (.bool false))], none, 1⟩,
   ⟨(some 32), .extract (.t 31) 0, none, 3⟩,
   ⟨(some 33), .extract (.t 31) 1, none, 3⟩,
   ⟨none, .store 7 (.t 4) (.t 32), none, 15⟩,
   ⟨(some 5), .mv (.t 33), none, 31⟩] false)
 (.ret))))))⟩
def c41 : RFn := ⟨2, 51, [.tmp 4],
 .seq (.reg [⟨(some 3), .box 7 (.t 1), none, 0⟩,
   ⟨(some 4), .mv (.c (.pv (.bool false))), none, 0⟩] false)
 (.seq (.seq (.reg [⟨(some 6), .load true 7 (.t 3), none, 0⟩,
   ⟨(some 7), .call (.f 66) [.t 6], none, 1⟩,
   ⟨(some 8), .bin .neq (.t 7) (.c (.pv (.int .i64 (0)))), none, 3⟩] false)
 (.cond (.t 8)
  (.seq (.reg [⟨(some 4), .mv (.c (.pv (.bool false))), none, 0⟩] false)
  (.ret))
  (.skip)))
 (.seq (.reg [⟨(some 9), .faddr (.t 3) 0, none, 0⟩,
   ⟨(some 10), .load false 1 (.t 9), none, 1⟩,
   ⟨(some 11), .call (.f 80) [.t 10], none, 3⟩,
   ⟨(some 5), .mv (.t 11), none, 7⟩] false)
 (.seq (.seq (.reg [⟨(some 12), .mv (.t 5), none, 0⟩,
   ⟨(some 13), .bin .eql (.t 12) (.c (.pv (.int .i64 (0)))), none, 1⟩] false)
 (.cond (.t 13)
  (.seq (.reg [⟨(some 4), .mv (.c (.pv (.bool true))), none, 0⟩] false)
  (.ret))
  (.skip)))
 (.seq (.seq (.reg [⟨(some 14), .faddr (.t 3) 4, none, 0⟩,
   ⟨(some 15), .load false 1 (.t 14), none, 1⟩,
   ⟨(some 16), .mv (.t 0), none, 0⟩,
   ⟨(some 17), .slen (.t 16), none, 4⟩,
   ⟨(some 18), .bin .geq (.t 15) (.t 17), none, 15⟩,
   ⟨(some 19), .mv (.t 18), none, 31⟩,
   ⟨(some 20), .mv (.t 0), (some (19, false)), 63⟩,
   ⟨(some 21), .faddr (.t 3) 4, (some (19, false)), 63⟩,
   ⟨(some 22), .load false 1 (.t 21), (some (19, false)), 191⟩,
   ⟨(some 23), .iaddr 7 (.t 20) (.t 22), (some (19, false)), 511⟩,
   ⟨(some 24), .faddr (.t 23) 0, (some (19, false)), 1023⟩,
   ⟨(some 25), .load false 1 (.t 24), (some (19, false)), 2047⟩,
   ⟨(some 26), .mv (.t 5), (some (19, false)), 63⟩,
   ⟨(some 27), .bin .neq (.t 25) (.t 26), (some (19, false)), 8191⟩,
   ⟨(some 28), .pick (.t 19) (.c (.pv (.bool true))) (.t 27), none, 16383⟩] false)
 (.cond (.t 28)
  (.seq (.reg [⟨(some 4), .mv (.c (.pv (.bool false))), none, 0⟩] false)
  (.ret))
  (.skip)))
 (.seq (.reg [⟨(some 29), .faddr (.t 3) 0, none, 0⟩,
   ⟨(some 30), .load false 1 (.t 29), none, 1⟩,
   ⟨(some 31), .bin .eql (.t 30) (.c (.pv (.int .i64 (9)))), none, 3⟩,
   ⟨(some 32), .mv (.t 31), none, 7⟩,
   ⟨(some 33), .faddr (.t 3) 0, (some (32, false)), 15⟩,
   ⟨(some 34), .load false 1 (.t 33), (some (32, false)), 31⟩,
   ⟨(some 35), .bin .eql (.t 34) (.c (.pv (.int .i64 (11)))), (some (32, false)), 63⟩,
   ⟨(some 36), .pick (.t 32) (.c (.pv (.bool true))) (.t 35), none, 127⟩,
   ⟨(some 37), .mv (.t 36), none, 255⟩,
   ⟨(some 38), .faddr (.t 3) 5, (some (37, false)), 511⟩,
   ⟨(some 39), .load false 1 (.t 38), (some (37, false)), 1023⟩,
   ⟨(some 40), .faddr (.t 3) 6, (some (37, false)), 511⟩,
   ⟨(some 41), .load false 1 (.t 40), (some (37, false)), 2559⟩,
   ⟨(some 42), .bin .add (.t 39) (.t 41), (some (37, false)), 8191⟩,
   ⟨(some 43), .mv (.t 0), (some (37, false)), 511⟩,
   ⟨(some 44), .faddr (.t 3) 4, (some (37, false)), 511⟩,
   ⟨(some 45), .load false 1 (.t 44), (some (37, false)), 33279⟩,
   ⟨(some 46), .iaddr 7 (.t 43) (.t 45), (some (37, false)), 115199⟩,
   ⟨(some 47), .load true 7 (.t 46), (some (37, false)), 246271⟩,
   ⟨(some 48), .call (.f 81) [.t 47], (some (37, false)), 508415⟩,
   ⟨(some 49), .bin .leq (.t 42) (.t 48), (some (37, false)), 1048575⟩,
   ⟨(some 50), .pick (.t 37) (.c (.pv (.bool true))) (.t 49), none, 2097151⟩,
   ⟨(some 4), .mv (.t 50), none, 4194303⟩] true)
 (.ret))))))⟩
def c44 : RFn := ⟨2, 149, [.tmp 4],
 .seq (.reg [⟨(some 2), .box 67 (.t 0), none, 0⟩,
   ⟨(some 3), .box 67 (.t 1), none, 0⟩,
   ⟨(some 4), .mv (.c (.pv (.bool false))), none, 0⟩] false)
 (.seq (.seq (.reg [⟨(some 9), .faddr (.t 2) 0, none, 0⟩,
   ⟨(some 10), .load false 1 (.t 9), none, 1⟩,
   ⟨(some 11), .faddr (.t 3) 0, none, 0⟩,
   ⟨(some 12), .load false 1 (.t 11), none, 4⟩,
   ⟨(some 13), .call (.f 83) [.t 10, .t 12], none, 15⟩,
   ⟨(some 14), .not (.t 13), none, 31⟩,
   ⟨(some 15), .mv (.t 14), none, 63⟩,
   ⟨(some 16), .faddr (.t 2) 1, (some (15, false)), 127⟩,
   ⟨(some 17), .load false 1 (.t 16), (some (15, false)), 255⟩,
   ⟨(some 18), .faddr (.t 3) 1, (some (15, false)), 127⟩,
   ⟨(some 19), .load false 1 (.t 18), (some (15, false)), 639⟩,
   ⟨(some 20), .call (.f 83) [.t 17, .t 19], (some (15, false)), 2047⟩,
   ⟨(some 21), .not (.t 20), (some (15, false)), 4095⟩,
   ⟨(some 22), .pick (.t 15) (.c (.pv (.bool true))) (.t 21), none, 8191⟩,
   ⟨(some 23), .mv (.t 22), none, 16383⟩,
   ⟨(some 24), .faddr (.t 2) 2, (some (23, false)), 32767⟩,
   ⟨(some 25), .load false 1 (.t 24), (some (23, false)), 65535⟩,
   ⟨(some 26), .faddr (.t 3) 2, (some (23, false)), 32767⟩,
   ⟨(some 27), .load false 1 (.t 26), (some (23, false)), 163839⟩,
   ⟨(some 28), .call (.f 84) [.t 25, .t 27], (some (23, false)), 524287⟩,
   ⟨(some 29), .not (.t 28), (some (23, false)), 1048575⟩,
   ⟨(some 30), .pick (.t 23) (.c (.pv (.bool true))) (.t 29), none, 2097151⟩,
   ⟨(some 31), .mv (.t 30), none, 4194303⟩,
   ⟨(some 32), .faddr (.t 2) 3, (some (31, false)), 8388607⟩,
   ⟨(some 33), .load false 1 (.t 32), (some (31, false)), 16777215⟩,
   ⟨(some 34), .slen (.t 33), (some (31, false)), 33554431⟩,
   ⟨(some 35), .faddr (.t 3) 3, (some (31, false)), 8388607⟩,
   ⟨(some 36), .load false 1 (.t 35), (some (31, false)), 75497471⟩,
   ⟨(some 37), .slen (.t 36), (some (31, false)), 209715199⟩,
   ⟨(some 38), .bin .neq (.t 34) (.t 37), (some (31, false)), 536870911⟩,
   ⟨(some 39), .pick (.t 31) (.c (.pv (.bool true))) (.t 38), none, 1073741823⟩,
   ⟨(some 40), .mv (.t 39), none, 2147483647⟩,
   ⟨(some 41), .faddr (.t 2) 4, (some (40, false)), 4294967295⟩,
   ⟨(some 42), .load false 1 (.t 41), (some (40, false)), 8589934591⟩,
   ⟨(some 43), .faddr (.t 3) 4, (some (40, false)), 4294967295⟩,
   ⟨(some 44), .load false 1 (.t 43), (some (40, false)), 21474836479⟩,
   ⟨(some 45), .bin .neq (.t 42) (.t 44), (some (40, false)), 68719476735⟩,
   ⟨(some 46), .pick (.t 40) (.c (.pv (.bool true))) (.t 45), none, 137438953471⟩,
   ⟨(some 47), .mv (.t 46), none, 274877906943⟩,
   ⟨(some 48), .faddr (.t 2) 62, (some (47, false)), 549755813887⟩,
   ⟨(some 49), .load false 1 (.t 48), (some (47, false)), 1099511627775⟩,
   ⟨(some 50), .slen (.t 49), (some (47, false)), 2199023255551⟩,
   ⟨(some 51), .faddr (.t 3) 62, (some (47, false)), 549755813887⟩,
   ⟨(some 52), .load false 1 (.t 51), (some (47, false)), 4947802324991⟩,
   ⟨(some 53), .slen (.t 52), (some (47, false)), 13743895347199⟩,
   ⟨(some 54), .bin .neq (.t 50) (.t 53), (some (47, false)), 35184372088831⟩,
   ⟨(some 55), .pick (.t 47) (.c (.pv (.bool true))) (.t 54), none, 70368744177663⟩,
   ⟨(some 56), .mv (.t 55), none, 140737488355327⟩,
   ⟨(some 57), .faddr (.t 2) 65, (some (56, false)), 281474976710655⟩,
   ⟨(some 58), .load false 1 (.t 57), (some (56, false)), 562949953421311⟩,
   ⟨(some 59), .faddr (.t 3) 65, (some (56, false)), 281474976710655⟩,
   ⟨(some 60), .load false 1 (.t 59), (some (56, false)), 1407374883553279⟩,
   ⟨(some 61), .bin .neq (.t 58) (.t 60), (some (56, false)), 4503599627370495⟩,
   ⟨(some 62), .pick (.t 56) (.c (.pv (.bool true))) (.t 61), none, 9007199254740991⟩,
   ⟨(some 63), .mv (.t 62), none, 18014398509481983⟩,
   ⟨(some 64), .faddr (.t 2) 66, (some (63, false)), 36028797018963967⟩,
   ⟨(some 65), .load false 1 (.t 64), (some (63, false)), 72057594037927935⟩,
   ⟨(some 66), .faddr (.t 3) 66, (some (63, false)), 36028797018963967⟩,
   ⟨(some 67), .load false 1 (.t 66), (some (63, false)), 180143985094819839⟩,
   ⟨(some 68), .bin .neq (.t 65) (.t 67), (some (63, false)), 576460752303423487⟩,
   ⟨(some 69), .pick (.t 63) (.c (.pv (.bool true))) (.t 68), none, 1152921504606846975⟩] false)
 (.cond (.t 69)
  (.seq (.reg [⟨(some 4), .mv (.c (.pv (.bool false))), none, 0⟩] false)
  (.ret))
  (.skip)))
 (.seq (.seq (.reg [⟨(some 5), .mv (.c (.pv (.int .i64 (0)))), none, 0⟩] false)
 (.block 0
  (.loop [2, 3, 5]
   (.seq (.seq (.reg [⟨(some 70), .mv (.t 5), none, 0⟩,
     ⟨(some 71), .faddr (.t 2) 3, none, 0⟩,
     ⟨(some 72), .load false 1 (.t 71), none, 2⟩,
     ⟨(some 73), .slen (.t 72), none, 6⟩,
     ⟨(some 74), .bin .lss (.t 70) (.t 73), none, 15⟩] false)
   (.cond (.t 74)
    (.skip)
    (.exit 0)))
   (.seq (.block 1
    (.seq (.reg [⟨(some 77), .faddr (.t 2) 3, none, 0⟩,
      ⟨(some 78), .load false 1 (.t 77), none, 1⟩,
      ⟨(some 79), .mv (.t 5), none, 0⟩,
      ⟨(some 80), .iaddr 3 (.t 78) (.t 79), none, 7⟩,
      ⟨(some 81), .load true 3 (.t 80), none, 15⟩,
      ⟨(some 82), .faddr (.t 3) 3, none, 0⟩,
      ⟨(some 83), .load false 1 (.t 82), none, 32⟩,
      ⟨(some 84), .mv (.t 5), none, 0⟩,
      ⟨(some 85), .iaddr 3 (.t 83) (.t 84), none, 224⟩,
      ⟨(some 86), .load true 3 (.t 85), none, 480⟩,
      ⟨(some 6), .alloc [.pv (.int .i64 (0)), .emp 7, .pv (.int .i64 (0))], none, 0⟩,
      ⟨(some 7), .alloc [.pv (.int .i64 (0)), .emp 7, .pv (.int .i64 (0))], none, 0⟩,
      ⟨none, .store 3 (.t 6) (.t 81), none, 3103⟩,
      ⟨none, .store 3 (.t 7) (.t 86), none, 8191⟩] true)
    (.seq (.reg [⟨(some 87), .faddr (.t 6) 0, none, 0⟩,
      ⟨(some 88), .load false 1 (.t 87), none, 1⟩,
      ⟨(some 89), .faddr (.t 7) 0, none, 0⟩,
      ⟨(some 90), .load false 1 (.t 89), none, 4⟩,
      ⟨(some 91), .bin .neq (.t 88) (.t 90), none, 15⟩,
      ⟨(some 92), .mv (.t 91), none, 31⟩,
      ⟨(some 93), .faddr (.t 6) 2, (some (92, false)), 63⟩,
      ⟨(some 94), .load false 1 (.t 93), (some (92, false)), 127⟩,
      ⟨(some 95), .faddr (.t 7) 2, (some (92, false)), 63⟩,
      ⟨(some 96), .load false 1 (.t 95), (some (92, false)), 319⟩,
      ⟨(some 97), .bin .neq (.t 94) (.t 96), (some (92, false)), 1023⟩,
      ⟨(some 98), .pick (.t 92) (.c (.pv (.bool true))) (.t 97), none, 2047⟩,
      ⟨(some 99), .mv (.t 98), none, 4095⟩,
      ⟨(some 100), .faddr (.t 6) 1, (some (99, false)), 8191⟩,
      ⟨(some 101), .load false 1 (.t 100), (some (99, false)), 16383⟩,
      ⟨(some 102), .faddr (.t 7) 1, (some (99, false)), 8191⟩,
      ⟨(some 103), .load false 1 (.t 102), (some (99, false)), 40959⟩,
      ⟨(some 104), .call (.f 84) [.t 101, .t 103], (some (99, false)), 131071⟩,
      ⟨(some 105), .not (.t 104), (some (99, false)), 262143⟩,
      ⟨(some 106), .pick (.t 99) (.c (.pv (.bool true))) (.t 105), none, 524287⟩] false)
    (.cond (.t 106)
     (.seq (.reg [⟨(some 4), .mv (.c (.pv (.bool false))), none, 0⟩] false)
     (.ret))
     (.skip)))))
   (.reg [⟨(some 75), .mv (.t 5), none, 0⟩,
     ⟨(some 76), .bin .add (.t 75) (.c (.pv (.int .i64 (1)))), none, 1⟩,
     ⟨(some 5), .mv (.t 76), none, 3⟩] false))))))
 (.seq (.seq (.reg [⟨(some 8), .mv (.c (.pv (.int .i64 (0)))), none, 0⟩] false)
 (.block 2
  (.loop [2, 3, 8]
   (.seq (.seq (.reg [⟨(some 107), .mv (.t 8), none, 0⟩,
     ⟨(some 108), .faddr (.t 2) 62, none, 0⟩,
     ⟨(some 109), .load false 1 (.t 108), none, 2⟩,
     ⟨(some 110), .slen (.t 109), none, 6⟩,
     ⟨(some 111), .bin .lss (.t 107) (.t 110), none, 15⟩] false)
   (.cond (.t 111)
    (.skip)
    (.exit 2)))
   (.seq (.block 3
    (.seq (.reg [⟨(some 114), .faddr (.t 2) 62, none, 0⟩,
      ⟨(some 115), .load false 1 (.t 114), none, 1⟩,
      ⟨(some 116), .mv (.t 8), none, 0⟩,
      ⟨(some 117), .iaddr 57 (.t 115) (.t 116), none, 7⟩,
      ⟨(some 118), .load true 57 (.t 117), none, 15⟩,
      ⟨(some 119), .faddr (.t 3) 62, none, 0⟩,
      ⟨(some 120), .load false 1 (.t 119), none, 32⟩,
      ⟨(some 121), .mv (.t 8), none, 0⟩,
      ⟨(some 122), .iaddr 57 (.t 120) (.t 121), none, 224⟩,
      ⟨(some 123), .load true 57 (.t 122), none, 480⟩,
      ⟨(some 124), .call (.f 85) [.t 118, .t 123], none, 1023⟩,
      ⟨(some 125), .not (.t 124), none, 2047⟩] true)
    (.cond (.t 125)
     (.seq (.reg [⟨(some 4), .mv (.c (.pv (.bool false))), none, 0⟩] false)
     (.ret))
     (.skip))))
   (.reg [⟨(some 112), .mv (.t 8), none, 0⟩,
     ⟨(some 113), .bin .add (.t 112) (.c (.pv (.int .i64 (1)))), none, 1⟩,
     ⟨(some 8), .mv (.t 113), none, 3⟩] false))))))
 (.seq (.reg [⟨(some 126), .faddr (.t 2) 5, none, 0⟩,
   ⟨(some 127), .load true 57 (.t 126), none, 1⟩,
   ⟨(some 128), .faddr (.t 3) 5, none, 0⟩,
   ⟨(some 129), .load true 57 (.t 128), none, 4⟩,
   ⟨(some 130), .call (.f 85) [.t 127, .t 129], none, 15⟩,
   ⟨(some 131), .mv (.t 130), none, 31⟩,
   ⟨(some 132), .faddr (.t 2) 63, (some (131, true)), 63⟩,
   ⟨(some 133), .load false 1 (.t 132), (some (131, true)), 127⟩,
   ⟨(some 134), .slen (.t 133), (some (131, true)), 255⟩,
   ⟨(some 135), .faddr (.t 3) 63, (some (131, true)), 63⟩,
   ⟨(some 136), .load false 1 (.t 135), (some (131, true)), 575⟩,
   ⟨(some 137), .slen (.t 136), (some (131, true)), 1599⟩,
   ⟨(some 138), .bin .eql (.t 134) (.t 137), (some (131, true)), 4095⟩,
   ⟨(some 139), .pick (.t 131) (.t 138) (.c (.pv (.bool false))), none, 8191⟩,
   ⟨(some 140), .mv (.t 139), none, 16383⟩,
   ⟨(some 141), .faddr (.t 2) 64, (some (140, true)), 32767⟩,
   ⟨(some 142), .load false 1 (.t 141), (some (140, true)), 65535⟩,
   ⟨(some 143), .slen (.t 142), (some (140, true)), 131071⟩,
   ⟨(some 144), .faddr (.t 3) 64, (some (140, true)), 32767⟩,
   ⟨(some 145), .load false 1 (.t 144), (some (140, true)), 294911⟩,
   ⟨(some 146), .slen (.t 145), (some (140, true)), 819199⟩,
   ⟨(some 147), .bin .eql (.t 143) (.t 146), (some (140, true)), 2097151⟩,
   ⟨(some 148), .pick (.t 140) (.t 147) (.c (.pv (.bool false))), none, 4194303⟩,
   ⟨(some 4), .mv (.t 148), none, 8388607⟩] false)
 (.ret)))))⟩
def c49 : RFn := ⟨1, 89, [.tmp 2],
 .seq (.reg [⟨(some 2), .mv (.c (.emp 7)), none, 0⟩] false)
 (.seq (.reg [⟨(some 7), .call (.f 91) [.c (.pv (.int .i64 (200)))], none, 0⟩,
   ⟨(some 8), .call (.f 91) [.c (.pv (.int .i64 (50)))], none, 1⟩,
   ⟨(some 9), .call (.f 91) [.c (.pv (.int .i64 (30)))], none, 3⟩,
   ⟨(some 10), .call (.f 91) [.c (.pv (.int .i64 (12)))], none, 7⟩,
   ⟨(some 11), .call (.f 91) [.c (.pv (.int .i64 (5)))], none, 15⟩,
   ⟨(some 12), .bsl 7 5 [.pv (.int .i64 (0)), .pv (.str []), .emp 7, .emp 7, .emp 7, .pv (.int .i64 (0)), .pv (.int .i64 (0))] [(0, .t 7), (1, .t 8), (2, .t 9), (3, .t 10), (4, .t 11)], none, 31⟩,
   ⟨(some 3), .mv (.t 12), none, 63⟩] false)
 (.seq (.seq (.reg [⟨(some 4), .mv (.c (.pv (.int .i64 (0)))), none, 0⟩] false)
 (.block 0
  (.loop [0, 3, 4]
   (.seq (.seq (.reg [⟨(some 13), .mv (.t 4), none, 0⟩,
     ⟨(some 14), .mv (.t 0), none, 0⟩,
     ⟨(some 15), .slen (.t 14), none, 2⟩,
     ⟨(some 16), .bin .lss (.t 13) (.t 15), none, 7⟩,
     ⟨(some 17), .mv (.t 16), none, 15⟩,
     ⟨(some 18), .mv (.t 4), (some (17, true)), 31⟩,
     ⟨(some 19), .bin .lss (.t 18) (.c (.pv (.int .i64 (200)))), (some (17, true)), 63⟩,
     ⟨(some 20), .pick (.t 17) (.t 19) (.c (.pv (.bool false))), none, 127⟩] false)
   (.cond (.t 20)
    (.skip)
    (.exit 0)))
   (.seq (.block 1
    (.seq (.reg [⟨(some 23), .mv (.t 3), none, 0⟩,
      ⟨(some 24), .mv (.t 3), none, 0⟩,
      ⟨(some 25), .iaddr 7 (.t 24) (.c (.pv (.int .i64 (0)))), none, 2⟩,
      ⟨(some 26), .faddr (.t 25) 3, none, 6⟩,
      ⟨(some 27), .load false 1 (.t 26), none, 14⟩,
      ⟨(some 28), .mv (.t 0), none, 0⟩,
      ⟨(some 29), .mv (.t 4), none, 0⟩,
      ⟨(some 30), .iaddr 1 (.t 28) (.t 29), none, 96⟩,
      ⟨(some 31), .load false 1 (.t 30), none, 224⟩,
      ⟨(some 32), .call (.f 92) [.t 31], none, 480⟩,
      ⟨(some 33), .bsl 7 1 [.pv (.int .i64 (0)), .pv (.bool false), .pv (.int .i64 (0)), .pv (.str []), .pv (.int .i64 (0)), .pv (.int .i64 (0)), .pv (.int .i64 (0))] [(0, .t 32)], none, 992⟩,
      ⟨(some 34), .append 7 64 (.t 27) (.t 33), none, 2046⟩,
      ⟨(some 35), .iaddr 7 (.t 23) (.c (.pv (.int .i64 (0)))), none, 4095⟩,
      ⟨(some 36), .faddr (.t 35) 3, none, 8191⟩,
      ⟨none, .store 1 (.t 36) (.t 34), none, 16383⟩] true)
    (.reg [⟨(some 37), .mv (.t 3), none, 0⟩,
      ⟨(some 38), .mv (.t 3), none, 0⟩,
      ⟨(some 39), .iaddr 7 (.t 38) (.c (.pv (.int .i64 (0)))), none, 2⟩,
      ⟨(some 40), .faddr (.t 39) 4, none, 6⟩,
      ⟨(some 41), .load false 1 (.t 40), none, 14⟩,
      ⟨(some 42), .mv (.t 0), none, 0⟩,
      ⟨(some 43), .mv (.t 4), none, 0⟩,
      ⟨(some 44), .iaddr 1 (.t 42) (.t 43), none, 96⟩,
      ⟨(some 45), .load false 1 (.t 44), none, 224⟩,
      ⟨(some 46), .build [.pv (.int .i64 (0)), .pv (.bool false), .pv (.int .i64 (0)), .pv (.str []), .pv (.int .i64 (0)), .pv (.int .i64 (0)), .pv (.int .i64 (0))] [(0, 1, .c (.pv (.int .i64 (10)))), (1, 1, .c (.pv (.bool true))), (3, 1, .t 45)], none, 480⟩,
      ⟨(some 47), .bsl 7 1 [.pv (.int .i64 (0)), .pv (.bool false), .pv (.int .i64 (0)), .pv (.str []), .pv (.int .i64 (0)), .pv (.int .i64 (0)), .pv (.int .i64 (0))] [(0, .t 46)], none, 992⟩,
      ⟨(some 48), .append 7 64 (.t 41) (.t 47), none, 2046⟩,
      ⟨(some 49), .iaddr 7 (.t 37) (.c (.pv (.int .i64 (0)))), none, 4095⟩,
      ⟨(some 50), .faddr (.t 49) 4, none, 8191⟩,
      ⟨none, .store 1 (.t 50) (.t 48), none, 16383⟩] true)))
   (.reg [⟨(some 21), .mv (.t 4), none, 0⟩,
     ⟨(some 22), .bin .add (.t 21) (.c (.pv (.int .i64 (1)))), none, 1⟩,
     ⟨(some 4), .mv (.t 22), none, 3⟩] false))))))
 (.seq (.reg [⟨(some 51), .call (.f 93) [], none, 0⟩,
   ⟨(some 5), .mv (.t 51), none, 1⟩] false)
 (.seq (.seq (.reg [⟨(some 6), .mv (.c (.pv (.int .i64 (0)))), none, 0⟩] false)
 (.block 2
  (.loop [3, 5, 6]
   (.seq (.seq (.reg [⟨(some 52), .mv (.t 6), none, 0⟩,
     ⟨(some 53), .mv (.t 5), none, 0⟩,
     ⟨(some 54), .slen (.t 53), none, 2⟩,
     ⟨(some 55), .bin .lss (.t 52) (.t 54), none, 7⟩] false)
   (.cond (.t 55)
    (.skip)
    (.exit 2)))
   (.seq (.block 3
    (.seq (.reg [⟨(some 58), .mv (.t 3), none, 0⟩,
      ⟨(some 59), .mv (.t 3), none, 0⟩,
      ⟨(some 60), .iaddr 7 (.t 59) (.c (.pv (.int .i64 (4)))), none, 2⟩,
      ⟨(some 61), .faddr (.t 60) 3, none, 6⟩,
      ⟨(some 62), .load false 1 (.t 61), none, 14⟩,
      ⟨(some 63), .mv (.t 5), none, 0⟩,
      ⟨(some 64), .mv (.t 6), none, 0⟩,
      ⟨(some 65), .iaddr 1 (.t 63) (.t 64), none, 96⟩,
      ⟨(some 66), .load false 1 (.t 65), none, 224⟩,
      ⟨(some 67), .call (.f 92) [.t 66], none, 480⟩,
      ⟨(some 68), .bsl 7 1 [.pv (.int .i64 (0)), .pv (.bool false), .pv (.int .i64 (0)), .pv (.str []), .pv (.int .i64 (0)), .pv (.int .i64 (0)), .pv (.int .i64 (0))] [(0, .t 67)], none, 992⟩,
      ⟨(some 69), .append 7 64 (.t 62) (.t 68), none, 2046⟩,
      ⟨(some 70), .iaddr 7 (.t 58) (.c (.pv (.int .i64 (4)))), none, 4095⟩,
      ⟨(some 71), .faddr (.t 70) 3, none, 8191⟩,
      ⟨none, .store 1 (.t 71) (.t 69), none, 16383⟩] true)
    (.seq (.reg [⟨(some 72), .mv (.t 3), none, 0⟩,
      ⟨(some 73), .mv (.t 3), none, 0⟩,
      ⟨(some 74), .iaddr 7 (.t 73) (.c (.pv (.int .i64 (4)))), none, 2⟩,
      ⟨(some 75), .faddr (.t 74) 4, none, 6⟩,
      ⟨(some 76), .load false 1 (.t 75), none, 14⟩,
      ⟨(some 77), .mv (.t 6), none, 0⟩,
      ⟨(some 78), .bin .add (.c (.pv (.int .i64 (5)))) (.t 77), none, 32⟩,
      ⟨(some 79), .build [.pv (.int .i64 (0)), .pv (.bool false), .pv (.int .i64 (0)), .pv (.str []), .pv (.int .i64 (0)), .pv (.int .i64 (0)), .pv (.int .i64 (0))] [(0, 1, .c (.pv (.int .i64 (9)))), (4, 1, .t 78)], none, 96⟩,
      ⟨(some 80), .bsl 7 1 [.pv (.int .i64 (0)), .pv (.bool false), .pv (.int .i64 (0)), .pv (.str []), .pv (.int .i64 (0)), .pv (.int .i64 (0)), .pv (.int .i64 (0))] [(0, .t 79)], none, 224⟩,
      ⟨(some 81), .append 7 64 (.t 76) (.t 80), none, 510⟩,
      ⟨(some 82), .iaddr 7 (.t 72) (.c (.pv (.int .i64 (4)))), none, 1023⟩,
      ⟨(some 83), .faddr (.t 82) 4, none, 2047⟩,
      ⟨none, .store 1 (.t 83) (.t 81), none, 4095⟩] false)
    (.reg [⟨(some 84), .mv (.t 3), none, 0⟩,
      ⟨(some 85), .call (.f 91) [.c (.pv (.int .i64 (10)))], none, 0⟩,
      ⟨(some 86), .bsl 7 1 [.pv (.int .i64 (0)), .pv (.str []), .emp 7, .emp 7, .emp 7, .pv (.int .i64 (0)), .pv (.int .i64 (0))] [(0, .t 85)], none, 2⟩,
      ⟨(some 87), .append 7 112 (.t 84) (.t 86), none, 7⟩,
      ⟨(some 3), .mv (.t 87), none, 15⟩] false))))
   (.reg [⟨(some 56), .mv (.t 6), none, 0⟩,
     ⟨(some 57), .bin .add (.t 56) (.c (.pv (.int .i64 (1)))), none, 1⟩,
     ⟨(some 6), .mv (.t 57), none, 3⟩] false))))))
 (.seq (.reg [⟨(some 88), .mv (.t 3), none, 0⟩,
   ⟨(some 2), .mv (.t 88), none, 1⟩] false)
 (.ret))))))⟩
def c51 : RFn := ⟨2, 88, [.cell 4 true 29, .tmp 5],
 .seq (.reg [⟨(some 2), .box 67 (.t 0), none, 0⟩,
   ⟨(some 4), .alloc [.pv (.int .i64 (0)), .pv (.bool false), .pv (.int .i64 (0)), .pv (.str []), .pv (.int .i64 (0)), .pv (.int .i64 (0)), .pv (.int .i64 (0)), .pv (.int .i64 (0)), .pv (.bool false), .pv (.int .i64 (0)), .pv (.str []), .pv (.int .i64 (0)), .pv (.int .i64 (0)), .pv (.int .i64 (0)), .pv (.int .i64 (0)), .pv (.bool false), .pv (.int .i64 (0)), .pv (.str []), .pv (.int .i64 (0)), .pv (.int .i64 (0)), .pv (.int .i64 (0)), .pv (.int .i64 (0)), .pv (.bool false), .pv (.int .i64 (0)), .pv (.str []), .pv (.int .i64 (0)), .pv (.int .i64 (0)), .pv (.int .i64 (0)), .pv (.int .i64 (0))], none, 0⟩,
   ⟨(some 5), .mv (.c (.pv (.int .i64 (0)))), none, 0⟩] false)
 (.seq (.reg [⟨(some 11), .faddr (.t 2) 0, none, 0⟩,
   ⟨(some 12), .load true 67 (.t 11), none, 1⟩,
   ⟨(some 13), .mv (.t 1), none, 0⟩,
   ⟨(some 14), .call (.f 87) [.t 12, .t 13], none, 7⟩,
   ⟨(some 10), .mv (.t 14), none, 15⟩,
   ⟨(some 15), .extract (.t 10) 0, none, 31⟩,
   ⟨(some 16), .extract (.t 10) 1, none, 31⟩,
   ⟨(some 6), .mv (.t 15), none, 63⟩,
   ⟨(some 7), .mv (.t 16), none, 255⟩] false)
 (.seq (.seq (.reg [⟨(some 17), .mv (.t 7), none, 0⟩,
   ⟨(some 18), .bin .neq (.t 17) (.c (.pv (.int .i64 (0)))), none, 1⟩] false)
 (.cond (.t 18)
  (.seq (.reg [⟨(some 19), .build [.pv (.int .i64 (0)), .pv (.bool false), .pv (.int .i64 (0)), .pv (.str []), .pv (.int .i64 (0)), .pv (.int .i64 (0)), .pv (.int .i64 (0)), .pv (.int .i64 (0)), .pv (.bool false), .pv (.int .i64 (0)), .pv (.str []), .pv (.int .i64 (0)), .pv (.int .i64 (0)), .pv (.int .i64 (0)), .pv (.int .i64 (0)), .pv (.bool false), .pv (.int .i64 (0)), .pv (.str []), .pv (.int .i64 (0)), .pv (.int .i64 (0)), .pv (.int .i64 (0)), .pv (.int .i64 (0)), .pv (.bool false), .pv (.int .i64 (0)), .pv (.str []), .pv (.int .i64 (0)), .pv (.int .i64 (0)), .pv (.int .i64 (0)), .pv (.int .i64 (0))] [], none, 0⟩,
    ⟨(some 20), .mv (.t 7), none, 0⟩,
    ⟨none, .store 29 (.t 4) (.t 19), none, 1⟩,
    ⟨(some 5), .mv (.t 20), none, 7⟩] false)
  (.ret))
  (.skip)))
 (.seq (.reg [⟨(some 21), .mv (.t 6), none, 0⟩,
   ⟨(some 22), .mv (.t 1), none, 0⟩,
   ⟨(some 23), .bin .sub (.t 22) (.c (.pv (.int .i64 (1)))), none, 2⟩,
   ⟨(some 24), .iaddr 7 (.t 21) (.t 23), none, 7⟩,
   ⟨(some 25), .load true 7 (.t 24), none, 15⟩,
   ⟨(some 8), .alloc [.pv (.int .i64 (0)), .pv (.bool false), .pv (.int .i64 (0)), .pv (.str []), .pv (.int .i64 (0)), .pv (.int .i64 (0)), .pv (.int .i64 (0))], none, 0⟩,
   ⟨none, .store 7 (.t 8) (.t 25), none, 63⟩] false)
 (.seq (.seq (.reg [⟨(some 26), .mv (.t 6), none, 0⟩,
   ⟨(some 27), .iaddr 7 (.t 26) (.c (.pv (.int .i64 (0)))), none, 1⟩,
   ⟨(some 28), .faddr (.t 27) 0, none, 3⟩,
   ⟨(some 29), .load false 1 (.t 28), none, 7⟩,
   ⟨(some 30), .bin .eql (.t 29) (.c (.pv (.int .i64 (0)))), none, 15⟩,
   ⟨(some 31), .mv (.t 30), none, 31⟩,
   ⟨(some 32), .faddr (.t 8) 0, (some (31, false)), 63⟩,
   ⟨(some 33), .load false 1 (.t 32), (some (31, false)), 127⟩,
   ⟨(some 34), .bin .neq (.t 33) (.c (.pv (.int .i64 (5)))), (some (31, false)), 255⟩,
   ⟨(some 35), .mv (.t 34), (some (31, false)), 511⟩,
   ⟨(some 36), .faddr (.t 8) 0, (some (35, true)), 1023⟩,
   ⟨(some 37), .load false 1 (.t 36), (some (35, true)), 2047⟩,
   ⟨(some 38), .bin .neq (.t 37) (.c (.pv (.int .i64 (6)))), (some (35, true)), 4095⟩,
   ⟨(some 39), .pick (.t 35) (.t 38) (.c (.pv (.bool false))), (some (31, false)), 8191⟩,
   ⟨(some 40), .pick (.t 31) (.c (.pv (.bool true))) (.t 39), none, 16383⟩] false)
 (.cond (.t 40)
  (.seq (.reg [⟨(some 41), .build [.pv (.int .i64 (0)), .pv (.bool false), .pv (.int .i64 (0)), .pv (.str []), .pv (.int .i64 (0)), .pv (.int .i64 (0)), .pv (.int .i64 (0)), .pv (.int .i64 (0)), .pv (.bool false), .pv (.int .i64 (0)), .pv (.str []), .pv (.int .i64 (0)), .pv (.int .i64 (0)), .pv (.int .i64 (0)), .pv (.int .i64 (0)), .pv (.bool false), .pv (.int .i64 (0)), .pv (.str []), .pv (.int .i64 (0)), .pv (.int .i64 (0)), .pv (.int .i64 (0)), .pv (.int .i64 (0)), .pv (.bool false), .pv (.int .i64 (0)), .pv (.str []), .pv (.int .i64 (0)), .pv (.int .i64 (0)), .pv (.int .i64 (0)), .pv (.int .i64 (0))] [], none, 0⟩,
    ⟨none, .store 29 (.t 4) (.t 41), none, 1⟩,
    ⟨(some 5), .mv (.c (.pv (.int .i64 (22)))), none, 3⟩] false)
  (.ret))
  (.skip)))
 (.seq (.reg [⟨(some 42), .mv (.t 6), none, 0⟩,
   ⟨(some 43), .iaddr 7 (.t 42) (.c (.pv (.int .i64 (1)))), none, 1⟩,
   ⟨(some 44), .load true 7 (.t 43), none, 3⟩,
   ⟨(some 45), .mv (.t 1), none, 0⟩,
   ⟨(some 46), .build [.pv (.int .i64 (0)), .pv (.bool false), .pv (.int .i64 (0)), .pv (.str []), .pv (.int .i64 (0)), .pv (.int .i64 (0)), .pv (.int .i64 (0)), .pv (.int .i64 (0)), .pv (.bool false), .pv (.int .i64 (0)), .pv (.str []), .pv (.int .i64 (0)), .pv (.int .i64 (0)), .pv (.int .i64 (0)), .pv (.int .i64 (0)), .pv (.bool false), .pv (.int .i64 (0)), .pv (.str []), .pv (.int .i64 (0)), .pv (.int .i64 (0)), .pv (.int .i64 (0)), .pv (.int .i64 (0)), .pv (.bool false), .pv (.int .i64 (0)), .pv (.str []), .pv (.int .i64 (0)), .pv (.int .i64 (0)), .pv (.int .i64 (0)), .pv (.int .i64 (0))] [(7, 7, .t 44), (28, 1, .t 45)], none, 15⟩,
   ⟨(some 9), .alloc [.pv (.int .i64 (0)), .pv (.bool false), .pv (.int .i64 (0)), .pv (.str []), .pv (.int .i64 (0)), .pv (.int .i64 (0)), .pv (.int .i64 (0)), .pv (.int .i64 (0)), .pv (.bool false), .pv (.int .i64 (0)), .pv (.str []), .pv (.int .i64 (0)), .pv (.int .i64 (0)), .pv (.int .i64 (0)), .pv (.int .i64 (0)), .pv (.bool false), .pv (.int .i64 (0)), .pv (.str []), .pv (.int .i64 (0)), .pv (.int .i64 (0)), .pv (.int .i64 (0)), .pv (.int .i64 (0)), .pv (.bool false), .pv (.int .i64 (0)), .pv (.str []), .pv (.int .i64 (0)), .pv (.int .i64 (0)), .pv (.int .i64 (0)), .pv (.int .i64 (0))], none, 0⟩,
   ⟨none, .store 29 (.t 9) (.t 46), none, 63⟩] false)
 (.seq (.seq (.reg [⟨(some 48), .faddr (.t 2) 0, none, 0⟩,
   ⟨(some 49), .faddr (.t 48) 2, none, 1⟩,
   ⟨(some 50), .load false 1 (.t 49), none, 3⟩,
   ⟨(some 51), .mv (.t 6), none, 0⟩,
   ⟨(some 52), .iaddr 7 (.t 51) (.c (.pv (.int .i64 (0)))), none, 8⟩,
   ⟨(some 53), .load true 7 (.t 52), none, 24⟩,
   ⟨(some 54), .call (.f 38) [.t 50, .t 53], none, 63⟩,
   ⟨(some 47), .mv (.t 54), none, 127⟩,
   ⟨(some 55), .extract (.t 47) 0, none, 255⟩,
   ⟨(some 56), .extract (.t 47) 1, none, 255⟩,
   ⟨(some 57), .faddr (.t 9) 0, none, 511⟩,
   ⟨none, .store 7 (.t 57) (.t 55), none, 1535⟩,
   ⟨(some 7), .mv (.t 56), none, 4095⟩] true)
 (.seq (.reg [⟨(some 58), .mv (.t 7), none, 0⟩,
   ⟨(some 59), .bin .neq (.t 58) (.c (.pv (.int .i64 (0)))), none, 1⟩] false)
 (.cond (.t 59)
  (.seq (.reg [⟨(some 60), .build [.pv (.int .i64 (0)), .pv (.bool false), .pv (.int .i64 (0)), .pv (.str []), .pv (.int .i64 (0)), .pv (.int .i64 (0)), .pv (.int .i64 (0)), .pv (.int .i64 (0)), .pv (.bool false), .pv (.int .i64 (0)), .pv (.str []), .pv (.int .i64 (0)), .pv (.int .i64 (0)), .pv (.int .i64 (0)), .pv (.int .i64 (0)), .pv (.bool false), .pv (.int .i64 (0)), .pv (.str []), .pv (.int .i64 (0)), .pv (.int .i64 (0)), .pv (.int .i64 (0)), .pv (.int .i64 (0)), .pv (.bool false), .pv (.int .i64 (0)), .pv (.str []), .pv (.int .i64 (0)), .pv (.int .i64 (0)), .pv (.int .i64 (0)), .pv (.int .i64 (0))] [], none, 0⟩,
    ⟨(some 61), .mv (.t 7), none, 0⟩,
    ⟨none, .store 29 (.t 4) (.t 60), none, 1⟩,
    ⟨(some 5), .mv (.t 61), none, 7⟩] false)
  (.ret))
  (.skip))))
 (.seq (.seq (.reg [⟨(some 63), .faddr (.t 2) 0, none, 0⟩,
   ⟨(some 64), .faddr (.t 63) 2, none, 1⟩,
   ⟨(some 65), .load false 1 (.t 64), none, 3⟩,
   ⟨(some 66), .load true 7 (.t 8), none, 0⟩,
   ⟨(some 67), .call (.f 38) [.t 65, .t 66], none, 15⟩,
   ⟨(some 62), .mv (.t 67), none, 31⟩,
   ⟨(some 68), .extract (.t 62) 0, none, 63⟩,
   ⟨(some 69), .extract (.t 62) 1, none, 63⟩,
   ⟨(some 70), .faddr (.t 9) 14, none, 127⟩,
   ⟨none, .store 7 (.t 70) (.t 68), none, 383⟩,
   ⟨(some 7), .mv (.t 69), none, 1023⟩] false)
 (.seq (.reg [⟨(some 71), .mv (.t 7), none, 0⟩,
   ⟨(some 72), .bin .neq (.t 71) (.c (.pv (.int .i64 (0)))), none, 1⟩] false)
 (.cond (.t 72)
  (.seq (.reg [⟨(some 73), .build [.pv (.int .i64 (0)), .pv (.bool false), .pv (.int .i64 (0)), .pv (.str []), .pv (.int .i64 (0)), .pv (.int .i64 (0)), .pv (.int .i64 (0)), .pv (.int .i64 (0)), .pv (.bool false), .pv (.int .i64 (0)), .pv (.str []), .pv (.int .i64 (0)), .pv (.int .i64 (0)), .pv (.int .i64 (0)), .pv (.int .i64 (0)), .pv (.bool false), .pv (.int .i64 (0)), .pv (.str []), .pv (.int .i64 (0)), .pv (.int .i64 (0)), .pv (.int .i64 (0)), .pv (.int .i64 (0)), .pv (.bool false), .pv (.int .i64 (0)), .pv (.str []), .pv (.int .i64 (0)), .pv (.int .i64 (0)), .pv (.int .i64 (0)), .pv (.int .i64 (0))] [], none, 0⟩,
    ⟨(some 74), .mv (.t 7), none, 0⟩,
    ⟨none, .store 29 (.t 4) (.t 73), none, 1⟩,
    ⟨(some 5), .mv (.t 74), none, 7⟩] false)
  (.ret))
  (.skip))))
 (.seq (.seq (.reg [⟨(some 76), .load true 67 (.t 2), none, 0⟩,
   ⟨(some 77), .faddr (.t 9) 14, none, 0⟩,
   ⟨(some 78), .load true 7 (.t 77), none, 2⟩,
   ⟨(some 79), .call (.f 58) [.t 76, .t 78], none, 7⟩,
   ⟨(some 75), .mv (.t 79), none, 15⟩,
   ⟨(some 80), .extract (.t 75) 0, none, 31⟩,
   ⟨(some 81), .extract (.t 75) 1, none, 31⟩,
   ⟨(some 82), .faddr (.t 9) 21, none, 63⟩,
   ⟨none, .store 7 (.t 82) (.t 80), none, 191⟩,
   ⟨(some 7), .mv (.t 81), none, 511⟩] false)
 (.seq (.reg [⟨(some 83), .mv (.t 7), none, 0⟩,
   ⟨(some 84), .bin .neq (.t 83) (.c (.pv (.int .i64 (0)))), none, 1⟩] false)
 (.cond (.t 84)
  (.seq (.reg [⟨(some 85), .build [.pv (.int .i64 (0)), .pv (.bool false), .pv (.int .i64 (0)), .pv (.str []), .pv (.int .i64 (0)), .pv (.int .i64 (0)), .pv (.int .i64 (0)), .pv (.int .i64 (0)), .pv (.bool false), .pv (.int .i64 (0)), .pv (.str []), .pv (.int .i64 (0)), .pv (.int .i64 (0)), .pv (.int .i64 (0)), .pv (.int .i64 (0)), .pv (.bool false), .pv (.int .i64 (0)), .pv (.str []), .pv (.int .i64 (0)), .pv (.int .i64 (0)), .pv (.int .i64 (0)), .pv (.int .i64 (0)), .pv (.bool false), .pv (.int .i64 (0)), .pv (.str []), .pv (.int .i64 (0)), .pv (.int .i64 (0)), .pv (.int .i64 (0)), .pv (.int .i64 (0))] [], none, 0⟩,
    ⟨(some 86), .mv (.t 7), none, 0⟩,
    ⟨none, .store 29 (.t 4) (.t 85), none, 1⟩,
    ⟨(some 5), .mv (.t 86), none, 7⟩] false)
  (.ret))
  (.skip))))
 (.seq (.reg [⟨(some 87), .load true 29 (.t 9), none, 0⟩,
   ⟨none, .store 29 (.t 4) (.t 87), none, 1⟩,
   ⟨(some 5), .mv (.c (.pv (.int .i64 (0)))), none, 3⟩] false)
 (.ret))))))))))⟩
def c52 : RFn := ⟨4, 8, [.tmp 6],
 .seq (.reg [⟨(some 4), .box 1 (.t 0), none, 0⟩,
   ⟨(some 5), .box 1 (.t 1), none, 0⟩,
   ⟨(some 6), .mv (.c (.pv .nilFunc)), none, 0⟩] false)
 (.seq (.reg [⟨(some 7), .mkf (.func 53) [] [.t 2, .t 4, .t 3, .t 5], none, 0⟩,
   ⟨(some 6), .mv (.t 7), none, 1⟩] false)
 (.ret))⟩
def c53 : RFn := ⟨4, 23, [.cell 4 true 67, .tmp 5],
 .seq (.reg [⟨(some 4), .alloc [.emp 7, .emp 7, .emp 7, .emp 3, .pv (.int .i64 (0)), .pv (.int .i64 (0)), .pv (.int .i64 (0)), .pv (.int .i64 (0)), .pv (.int .i64 (0)), .pv (.int .i64 (0)), .pv (.int .i64 (0)), .emp 7, .pv (.int .i64 (0)), .pv (.int .i64 (0)), .pv (.int .i64 (0)), .pv (.int .i64 (0)), .pv (.int .i64 (0)), .pv (.int .i64 (0)), .pv (.int .i64 (0)), .pv (.int .i64 (0)), .pv (.int .i64 (0)), .pv (.int .i64 (0)), .pv (.int .i64 (0)), .pv (.int .i64 (0)), .pv (.int .i64 (0)), .pv (.int .i64 (0)), .pv (.int .i64 (0)), .pv (.int .i64 (0)), .pv (.int .i64 (0)), .pv (.int .i64 (0)), .pv (.int .i64 (0)), .pv (.int .i64 (0)), .pv (.bool false), .pv (.bool false), .emp 47, .pv (.int .i64 (0)), .pv (.int .i64 (0)), .pv (.int .i64 (0)), .pv (.int .i64 (0)), .pv (.int .i64 (0)), .pv (.int .i64 (0)), .pv (.int .i64 (0)), .pv (.int .i64 (0)), .emp 1, .pv (.int .i64 (0)), .pv (.int .i64 (0)), .emp 2, .pv (.int .i64 (0)), .pv (.bool false), .pv (.int .i64 (0)), .pv (.str []), .pv (.int .i64 (0)), .pv (.int .i64 (0)), .pv (.int .i64 (0)), .pv (.int .i64 (0)), .pv (.int .i64 (0)), .pv (.int .i64 (0)), .pv (.int .i64 (0)), .pv (.int .i64 (0)), .pv (.int .i64 (0)), .pv (.int .i64 (0)), .pv (.int .i64 (0)), .emp 57, .emp 47, .emp 3, .pv (.str []), .pv (.int .i64 (0))], none, 0⟩,
   ⟨(some 5), .mv (.c (.pv (.int .i64 (0)))), none, 0⟩] false)
 (.seq (.reg [⟨(some 9), .load false 1 (.t 0), none, 0⟩,
   ⟨(some 10), .load false 1 (.t 1), none, 0⟩,
   ⟨(some 11), .call (.t 9) [.t 10], none, 3⟩,
   ⟨(some 8), .mv (.t 11), none, 7⟩,
   ⟨(some 12), .extract (.t 8) 0, none, 15⟩,
   ⟨(some 13), .extract (.t 8) 1, none, 15⟩,
   ⟨(some 6), .alloc [.pv (.int .i64 (0)), .pv (.bool false), .pv (.int .i64 (0)), .pv (.str []), .pv (.int .i64 (0)), .pv (.int .i64 (0)), .pv (.int .i64 (0)), .pv (.int .i64 (0)), .pv (.bool false), .pv (.int .i64 (0)), .pv (.str []), .pv (.int .i64 (0)), .pv (.int .i64 (0)), .pv (.int .i64 (0)), .pv (.int .i64 (0)), .pv (.bool false), .pv (.int .i64 (0)), .pv (.str []), .pv (.int .i64 (0)), .pv (.int .i64 (0)), .pv (.int .i64 (0)), .pv (.int .i64 (0)), .pv (.bool false), .pv (.int .i64 (0)), .pv (.str []), .pv (.int .i64 (0)), .pv (.int .i64 (0)), .pv (.int .i64 (0)), .pv (.int .i64 (0))], none, 0⟩,
   ⟨none, .store 29 (.t 6) (.t 12), none, 95⟩,
   ⟨(some 7), .mv (.t 13), none, 255⟩] false)
 (.seq (.seq (.reg [⟨(some 14), .mv (.t 7), none, 0⟩,
   ⟨(some 15), .bin .neq (.t 14) (.c (.pv (.int .i64 (0)))), none, 1⟩] false)
 (.cond (.t 15)
  (.seq (.reg [⟨(some 16), .load true 67 (.t 2), none, 0⟩,
    ⟨(some 17), .mv (.t 7), none, 0⟩,
    ⟨none, .store 67 (.t 4) (.t 16), none, 1⟩,
    ⟨(some 5), .mv (.t 17), none, 7⟩] false)
  (.ret))
  (.skip)))
 (.seq (.reg [⟨(some 18), .load false 1 (.t 3), none, 0⟩,
   ⟨(some 19), .load true 29 (.t 6), none, 0⟩,
   ⟨(some 20), .call (.t 18) [.t 19], none, 3⟩,
   ⟨(some 21), .extract (.t 20) 0, none, 7⟩,
   ⟨(some 22), .extract (.t 20) 1, none, 7⟩,
   ⟨none, .store 67 (.t 4) (.t 21), none, 31⟩,
   ⟨(some 5), .mv (.t 22), none, 63⟩] false)
 (.ret))))⟩
def c54 : RFn := ⟨2, 44, [.cell 4 true 67, .tmp 5],
 .seq (.reg [⟨(some 2), .box 67 (.t 0), none, 0⟩,
   ⟨(some 3), .box 29 (.t 1), none, 0⟩,
   ⟨(some 4), .alloc [.emp 7, .emp 7, .emp 7, .emp 3, .pv (.int .i64 (0)), .pv (.int .i64 (0)), .pv (.int .i64 (0)), .pv (.int .i64 (0)), .pv (.int .i64 (0)), .pv (.int .i64 (0)), .pv (.int .i64 (0)), .emp 7, .pv (.int .i64 (0)), .pv (.int .i64 (0)), .pv (.int .i64 (0)), .pv (.int .i64 (0)), .pv (.int .i64 (0)), .pv (.int .i64 (0)), .pv (.int .i64 (0)), .pv (.int .i64 (0)), .pv (.int .i64 (0)), .pv (.int .i64 (0)), .pv (.int .i64 (0)), .pv (.int .i64 (0)), .pv (.int .i64 (0)), .pv (.int .i64 (0)), .pv (.int .i64 (0)), .pv (.int .i64 (0)), .pv (.int .i64 (0)), .pv (.int .i64 (0)), .pv (.int .i64 (0)), .pv (.int .i64 (0)), .pv (.bool false), .pv (.bool false), .emp 47, .pv (.int .i64 (0)), .pv (.int .i64 (0)), .pv (.int .i64 (0)), .pv (.int .i64 (0)), .pv (.int .i64 (0)), .pv (.int .i64 (0)), .pv (.int .i64 (0)), .pv (.int .i64 (0)), .emp 1, .pv (.int .i64 (0)), .pv (.int .i64 (0)), .emp 2, .pv (.int .i64 (0)), .pv (.bool false), .pv (.int .i64 (0)), .pv (.str []), .pv (.int .i64 (0)), .pv (.int .i64 (0)), .pv (.int .i64 (0)), .pv (.int .i64 (0)), .pv (.int .i64 (0)), .pv (.int .i64 (0)), .pv (.int .i64 (0)), .pv (.int .i64 (0)), .pv (.int .i64 (0)), .pv (.int .i64 (0)), .pv (.int .i64 (0)), .emp 57, .emp 47, .emp 3, .pv (.str []), .pv (.int .i64 (0))], none, 0⟩,
   ⟨(some 5), .mv (.c (.pv (.int .i64 (0)))), none, 0⟩] false)
 (.seq (.seq (.reg [⟨(some 8), .faddr (.t 3) 14, none, 0⟩,
   ⟨(some 9), .faddr (.t 8) 3, none, 1⟩,
   ⟨(some 10), .load false 1 (.t 9), none, 3⟩,
   ⟨(some 11), .faddr (.t 3) 7, none, 0⟩,
   ⟨(some 12), .load true 7 (.t 11), none, 8⟩,
   ⟨(some 13), .call (.f 94) [.t 10, .t 12], none, 31⟩,
   ⟨(some 14), .not (.t 13), none, 63⟩] false)
 (.cond (.t 14)
  (.seq (.reg [⟨(some 15), .faddr (.t 2) 0, none, 0⟩,
    ⟨(some 16), .load true 67 (.t 15), none, 1⟩,
    ⟨none, .store 67 (.t 4) (.t 16), none, 3⟩,
    ⟨(some 5), .mv (.c (.pv (.int .i64 (22)))), none, 7⟩] false)
  (.ret))
  (.skip)))
 (.seq (.reg [⟨(some 18), .faddr (.t 2) 0, none, 0⟩,
   ⟨(some 19), .faddr (.t 18) 2, none, 1⟩,
   ⟨(some 20), .load false 1 (.t 19), none, 3⟩,
   ⟨(some 21), .faddr (.t 3) 21, none, 0⟩,
   ⟨(some 22), .load true 7 (.t 21), none, 8⟩,
   ⟨(some 23), .faddr (.t 3) 0, none, 0⟩,
   ⟨(some 24), .load true 7 (.t 23), none, 32⟩,
   ⟨(some 25), .faddr (.t 3) 7, none, 0⟩,
   ⟨(some 26), .load true 7 (.t 25), none, 128⟩,
   ⟨(some 27), .call (.f 63) [.t 20, .t 22, .t 24, .t 26], none, 511⟩,
   ⟨(some 17), .mv (.t 27), none, 1023⟩,
   ⟨(some 28), .extract (.t 17) 0, none, 2047⟩,
   ⟨(some 29), .extract (.t 17) 1, none, 2047⟩,
   ⟨(some 6), .mv (.t 28), none, 4095⟩,
   ⟨(some 7), .mv (.t 29), none, 16383⟩] false)
 (.seq (.seq (.reg [⟨(some 30), .mv (.t 7), none, 0⟩,
   ⟨(some 31), .bin .neq (.t 30) (.c (.pv (.int .i64 (0)))), none, 1⟩] false)
 (.cond (.t 31)
  (.seq (.reg [⟨(some 32), .faddr (.t 2) 0, none, 0⟩,
    ⟨(some 33), .load true 67 (.t 32), none, 1⟩,
    ⟨(some 34), .mv (.t 7), none, 0⟩,
    ⟨none, .store 67 (.t 4) (.t 33), none, 3⟩,
    ⟨(some 5), .mv (.t 34), none, 15⟩] false)
  (.ret))
  (.skip)))
 (.seq (.reg [⟨(some 35), .load true 67 (.t 2), none, 0⟩,
   ⟨(some 36), .load true 29 (.t 3), none, 0⟩,
   ⟨(some 37), .mv (.t 6), none, 0⟩,
   ⟨(some 38), .faddr (.t 3) 7, none, 0⟩,
   ⟨(some 39), .load true 7 (.t 38), none, 8⟩,
   ⟨(some 40), .bsl 7 1 [.pv (.int .i64 (0)), .pv (.bool false), .pv (.int .i64 (0)), .pv (.str []), .pv (.int .i64 (0)), .pv (.int .i64 (0)), .pv (.int .i64 (0))] [(0, .t 39)], none, 24⟩,
   ⟨(some 41), .call (.f 95) [.t 35, .t 36, .t 37, .t 40], none, 63⟩,
   ⟨(some 42), .extract (.t 41) 0, none, 127⟩,
   ⟨(some 43), .extract (.t 41) 1, none, 127⟩,
   ⟨none, .store 67 (.t 4) (.t 42), none, 511⟩,
   ⟨(some 5), .mv (.t 43), none, 1023⟩] false)
 (.ret)))))⟩
def c55 : RFn := ⟨2, 32, [.cell 4 true 67, .tmp 5],
 .seq (.reg [⟨(some 2), .box 67 (.t 0), none, 0⟩,
   ⟨(some 3), .box 29 (.t 1), none, 0⟩,
   ⟨(some 4), .alloc [.emp 7, .emp 7, .emp 7, .emp 3, .pv (.int .i64 (0)), .pv (.int .i64 (0)), .pv (.int .i64 (0)), .pv (.int .i64 (0)), .pv (.int .i64 (0)), .pv (.int .i64 (0)), .pv (.int .i64 (0)), .emp 7, .pv (.int .i64 (0)), .pv (.int .i64 (0)), .pv (.int .i64 (0)), .pv (.int .i64 (0)), .pv (.int .i64 (0)), .pv (.int .i64 (0)), .pv (.int .i64 (0)), .pv (.int .i64 (0)), .pv (.int .i64 (0)), .pv (.int .i64 (0)), .pv (.int .i64 (0)), .pv (.int .i64 (0)), .pv (.int .i64 (0)), .pv (.int .i64 (0)), .pv (.int .i64 (0)), .pv (.int .i64 (0)), .pv (.int .i64 (0)), .pv (.int .i64 (0)), .pv (.int .i64 (0)), .pv (.int .i64 (0)), .pv (.bool false), .pv (.bool false), .emp 47, .pv (.int .i64 (0)), .pv (.int .i64 (0)), .pv (.int .i64 (0)), .pv (.int .i64 (0)), .pv (.int .i64 (0)), .pv (.int .i64 (0)), .pv (.int .i64 (0)), .pv (.int .i64 (0)), .emp 1, .pv (.int .i64 (0)), .pv (.int .i64 (0)), .emp 2, .pv (.int .i64 (0)), .pv (.bool false), .pv (.int .i64 (0)), .pv (.str []), .pv (.int .i64 (0)), .pv (.int .i64 (0)), .pv (.int .i64 (0)), .pv (.int .i64 (0)), .pv (.int .i64 (0)), .pv (.int .i64 (0)), .pv (.int .i64 (0)), .pv (.int .i64 (0)), .pv (.int .i64 (0)), .pv (.int .i64 (0)), .pv (.int .i64 (0)), .emp 57, .emp 47, .emp 3, .pv (.str []), .pv (.int .i64 (0))], none, 0⟩,
   ⟨(some 5), .mv (.c (.pv (.int .i64 (0)))), none, 0⟩] false)
 (.seq (.reg [⟨(some 9), .load true 67 (.t 2), none, 0⟩,
   ⟨(some 10), .faddr (.t 3) 21, none, 0⟩,
   ⟨(some 11), .load true 7 (.t 10), none, 2⟩,
   ⟨(some 12), .faddr (.t 3) 0, none, 0⟩,
   ⟨(some 13), .load true 7 (.t 12), none, 8⟩,
   ⟨(some 14), .call (.f 59) [.t 9, .t 11, .t 13], none, 31⟩,
   ⟨(some 8), .mv (.t 14), none, 63⟩,
   ⟨(some 15), .extract (.t 8) 0, none, 127⟩,
   ⟨(some 16), .extract (.t 8) 1, none, 127⟩,
   ⟨(some 6), .alloc [.pv (.int .i64 (0)), .pv (.bool false), .pv (.int .i64 (0)), .pv (.str []), .pv (.int .i64 (0)), .pv (.int .i64 (0)), .pv (.int .i64 (0))], none, 0⟩,
   ⟨none, .store 7 (.t 6) (.t 15), none, 767⟩,
   ⟨(some 7), .mv (.t 16), none, 2047⟩] false)
 (.seq (.seq (.reg [⟨(some 17), .mv (.t 7), none, 0⟩,
   ⟨(some 18), .bin .neq (.t 17) (.c (.pv (.int .i64 (0)))), none, 1⟩] false)
 (.cond (.t 18)
  (.seq (.reg [⟨(some 19), .faddr (.t 2) 0, none, 0⟩,
    ⟨(some 20), .load true 67 (.t 19), none, 1⟩,
    ⟨(some 21), .mv (.t 7), none, 0⟩,
    ⟨none, .store 67 (.t 4) (.t 20), none, 3⟩,
    ⟨(some 5), .mv (.t 21), none, 15⟩] false)
  (.ret))
  (.skip)))
 (.seq (.reg [⟨(some 22), .load true 67 (.t 2), none, 0⟩,
   ⟨(some 23), .load true 29 (.t 3), none, 0⟩,
   ⟨(some 24), .faddr (.t 2) 0, none, 0⟩,
   ⟨(some 25), .faddr (.t 24) 2, none, 4⟩,
   ⟨(some 26), .load false 1 (.t 25), none, 12⟩,
   ⟨(some 27), .load true 7 (.t 6), none, 0⟩,
   ⟨(some 28), .bsl 7 1 [.pv (.int .i64 (0)), .pv (.bool false), .pv (.int .i64 (0)), .pv (.str []), .pv (.int .i64 (0)), .pv (.int .i64 (0)), .pv (.int .i64 (0))] [(0, .t 27)], none, 32⟩,
   ⟨(some 29), .call (.f 95) [.t 22, .t 23, .t 26, .t 28], none, 127⟩,
   ⟨(some 30), .extract (.t 29) 0, none, 255⟩,
   ⟨(some 31), .extract (.t 29) 1, none, 255⟩,
   ⟨none, .store 67 (.t 4) (.t 30), none, 1023⟩,
   ⟨(some 5), .mv (.t 31), none, 2047⟩] false)
 (.ret))))⟩
def c56 : RFn := ⟨2, 30, [.cell 4 true 67, .tmp 5],
 .seq (.reg [⟨(some 2), .box 67 (.t 0), none, 0⟩,
   ⟨(some 3), .box 29 (.t 1), none, 0⟩,
   ⟨(some 4), .alloc [.emp 7, .emp 7, .emp 7, .emp 3, .pv (.int .i64 (0)), .pv (.int .i64 (0)), .pv (.int .i64 (0)), .pv (.int .i64 (0)), .pv (.int .i64 (0)), .pv (.int .i64 (0)), .pv (.int .i64 (0)), .emp 7, .pv (.int .i64 (0)), .pv (.int .i64 (0)), .pv (.int .i64 (0)), .pv (.int .i64 (0)), .pv (.int .i64 (0)), .pv (.int .i64 (0)), .pv (.int .i64 (0)), .pv (.int .i64 (0)), .pv (.int .i64 (0)), .pv (.int .i64 (0)), .pv (.int .i64 (0)), .pv (.int .i64 (0)), .pv (.int .i64 (0)), .pv (.int .i64 (0)), .pv (.int .i64 (0)), .pv (.int .i64 (0)), .pv (.int .i64 (0)), .pv (.int .i64 (0)), .pv (.int .i64 (0)), .pv (.int .i64 (0)), .pv (.bool false), .pv (.bool false), .emp 47, .pv (.int .i64 (0)), .pv (.int .i64 (0)), .pv (.int .i64 (0)), .pv (.int .i64 (0)), .pv (.int .i64 (0)), .pv (.int .i64 (0)), .pv (.int .i64 (0)), .pv (.int .i64 (0)), .emp 1, .pv (.int .i64 (0)), .pv (.int .i64 (0)), .emp 2, .pv (.int .i64 (0)), .pv (.bool false), .pv (.int .i64 (0)), .pv (.str []), .pv (.int .i64 (0)), .pv (.int .i64 (0)), .pv (.int .i64 (0)), .pv (.int .i64 (0)), .pv (.int .i64 (0)), .pv (.int .i64 (0)), .pv (.int .i64 (0)), .pv (.int .i64 (0)), .pv (.int .i64 (0)), .pv (.int .i64 (0)), .pv (.int .i64 (0)), .emp 57, .emp 47, .emp 3, .pv (.str []), .pv (.int .i64 (0))], none, 0⟩,
   ⟨(some 5), .mv (.c (.pv (.int .i64 (0)))), none, 0⟩] false)
 (.seq (.reg [⟨(some 9), .faddr (.t 2) 0, none, 0⟩,
   ⟨(some 10), .faddr (.t 9) 2, none, 1⟩,
   ⟨(some 11), .load false 1 (.t 10), none, 3⟩,
   ⟨(some 12), .faddr (.t 3) 21, none, 0⟩,
   ⟨(some 13), .load true 7 (.t 12), none, 8⟩,
   ⟨(some 14), .faddr (.t 3) 0, none, 0⟩,
   ⟨(some 15), .load true 7 (.t 14), none, 32⟩,
   ⟨(some 16), .call (.f 96) [.t 11, .t 13, .t 15], none, 127⟩,
   ⟨(some 8), .mv (.t 16), none, 255⟩,
   ⟨(some 17), .extract (.t 8) 0, none, 511⟩,
   ⟨(some 18), .extract (.t 8) 1, none, 511⟩,
   ⟨(some 6), .mv (.t 17), none, 1023⟩,
   ⟨(some 7), .mv (.t 18), none, 4095⟩] false)
 (.seq (.seq (.reg [⟨(some 19), .mv (.t 7), none, 0⟩,
   ⟨(some 20), .bin .neq (.t 19) (.c (.pv (.int .i64 (0)))), none, 1⟩] false)
 (.cond (.t 20)
  (.seq (.reg [⟨(some 21), .faddr (.t 2) 0, none, 0⟩,
    ⟨(some 22), .load true 67 (.t 21), none, 1⟩,
    ⟨(some 23), .mv (.t 7), none, 0⟩,
    ⟨none, .store 67 (.t 4) (.t 22), none, 3⟩,
    ⟨(some 5), .mv (.t 23), none, 15⟩] false)
  (.ret))
  (.skip)))
 (.seq (.reg [⟨(some 24), .load true 67 (.t 2), none, 0⟩,
   ⟨(some 25), .load true 29 (.t 3), none, 0⟩,
   ⟨(some 26), .mv (.t 6), none, 0⟩,
   ⟨(some 27), .call (.f 95) [.t 24, .t 25, .t 26, .c (.emp 7)], none, 7⟩,
   ⟨(some 28), .extract (.t 27) 0, none, 15⟩,
   ⟨(some 29), .extract (.t 27) 1, none, 15⟩,
   ⟨none, .store 67 (.t 4) (.t 28), none, 63⟩,
   ⟨(some 5), .mv (.t 29), none, 127⟩] false)
 (.ret))))⟩
def c57 : RFn := ⟨2, 32, [.cell 4 true 67, .tmp 5],
 .seq (.reg [⟨(some 2), .box 67 (.t 0), none, 0⟩,
   ⟨(some 3), .box 29 (.t 1), none, 0⟩,
   ⟨(some 4), .alloc [.emp 7, .emp 7, .emp 7, .emp 3, .pv (.int .i64 (0)), .pv (.int .i64 (0)), .pv (.int .i64 (0)), .pv (.int .i64 (0)), .pv (.int .i64 (0)), .pv (.int .i64 (0)), .pv (.int .i64 (0)), .emp 7, .pv (.int .i64 (0)), .pv (.int .i64 (0)), .pv (.int .i64 (0)), .pv (.int .i64 (0)), .pv (.int .i64 (0)), .pv (.int .i64 (0)), .pv (.int .i64 (0)), .pv (.int .i64 (0)), .pv (.int .i64 (0)), .pv (.int .i64 (0)), .pv (.int .i64 (0)), .pv (.int .i64 (0)), .pv (.int .i64 (0)), .pv (.int .i64 (0)), .pv (.int .i64 (0)), .pv (.int .i64 (0)), .pv (.int .i64 (0)), .pv (.int .i64 (0)), .pv (.int .i64 (0)), .pv (.int .i64 (0)), .pv (.bool false), .pv (.bool false), .emp 47, .pv (.int .i64 (0)), .pv (.int .i64 (0)), .pv (.int .i64 (0)), .pv (.int .i64 (0)), .pv (.int .i64 (0)), .pv (.int .i64 (0)), .pv (.int .i64 (0)), .pv (.int .i64 (0)), .emp 1, .pv (.int .i64 (0)), .pv (.int .i64 (0)), .emp 2, .pv (.int .i64 (0)), .pv (.bool false), .pv (.int .i64 (0)), .pv (.str []), .pv (.int .i64 (0)), .pv (.int .i64 (0)), .pv (.int .i64 (0)), .pv (.int .i64 (0)), .pv (.int .i64 (0)), .pv (.int .i64 (0)), .pv (.int .i64 (0)), .pv (.int .i64 (0)), .pv (.int .i64 (0)), .pv (.int .i64 (0)), .pv (.int .i64 (0)), .emp 57, .emp 47, .emp 3, .pv (.str []), .pv (.int .i64 (0))], none, 0⟩,
   ⟨(some 5), .mv (.c (.pv (.int .i64 (0)))), none, 0⟩] false)
 (.seq (.reg [⟨(some 9), .build [.pv (.int .i64 (0)), .pv (.bool false), .pv (.int .i64 (0)), .pv (.str []), .pv (.int .i64 (0)), .pv (.int .i64 (0)), .pv (.int .i64 (0))] [(0, 1, .c (.pv (.int .i64 (2))))], none, 0⟩,
   ⟨(some 6), .alloc [.pv (.int .i64 (0)), .pv (.bool false), .pv (.int .i64 (0)), .pv (.str []), .pv (.int .i64 (0)), .pv (.int .i64 (0)), .pv (.int .i64 (0))], none, 0⟩,
   ⟨none, .store 7 (.t 6) (.t 9), none, 3⟩] false)
 (.seq (.seq (.reg [⟨(some 11), .load true 67 (.t 2), none, 0⟩,
   ⟨(some 12), .faddr (.t 3) 21, none, 0⟩,
   ⟨(some 13), .load true 7 (.t 12), none, 2⟩,
   ⟨(some 14), .faddr (.t 3) 0, none, 0⟩,
   ⟨(some 15), .load true 7 (.t 14), none, 8⟩,
   ⟨(some 16), .call (.f 59) [.t 11, .t 13, .t 15], none, 31⟩,
   ⟨(some 10), .mv (.t 16), none, 63⟩,
   ⟨(some 17), .extract (.t 10) 0, none, 127⟩,
   ⟨(some 18), .extract (.t 10) 1, none, 127⟩,
   ⟨(some 7), .alloc [.pv (.int .i64 (0)), .pv (.bool false), .pv (.int .i64 (0)), .pv (.str []), .pv (.int .i64 (0)), .pv (.int .i64 (0)), .pv (.int .i64 (0))], none, 0⟩,
   ⟨none, .store 7 (.t 7) (.t 17), none, 767⟩,
   ⟨(some 8), .mv (.t 18), none, 2047⟩] false)
 (.seq (.reg [⟨(some 19), .mv (.t 8), none, 0⟩,
   ⟨(some 20), .bin .eql (.t 19) (.c (.pv (.int .i64 (0)))), none, 1⟩] false)
 (.cond (.t 20)
  (.reg [⟨(some 21), .faddr (.t 6) 2, none, 0⟩,
    ⟨none, .store 1 (.t 21) (.c (.pv (.int .i64 (1)))), none, 1⟩] false)
  (.skip))))
 (.seq (.reg [⟨(some 22), .load true 67 (.t 2), none, 0⟩,
   ⟨(some 23), .load true 29 (.t 3), none, 0⟩,
   ⟨(some 24), .faddr (.t 2) 0, none, 0⟩,
   ⟨(some 25), .faddr (.t 24) 2, none, 4⟩,
   ⟨(some 26), .load false 1 (.t 25), none, 12⟩,
   ⟨(some 27), .load true 7 (.t 6), none, 0⟩,
   ⟨(some 28), .bsl 7 1 [.pv (.int .i64 (0)), .pv (.bool false), .pv (.int .i64 (0)), .pv (.str []), .pv (.int .i64 (0)), .pv (.int .i64 (0)), .pv (.int .i64 (0))] [(0, .t 27)], none, 32⟩,
   ⟨(some 29), .call (.f 95) [.t 22, .t 23, .t 26, .t 28], none, 127⟩,
   ⟨(some 30), .extract (.t 29) 0, none, 255⟩,
   ⟨(some 31), .extract (.t 29) 1, none, 255⟩,
   ⟨none, .store 67 (.t 4) (.t 30), none, 1023⟩,
   ⟨(some 5), .mv (.t 31), none, 2047⟩] false)
 (.ret))))⟩
def c58 : RFn := ⟨2, 32, [.cell 4 true 7, .tmp 5],
 .seq (.reg [⟨(some 2), .box 67 (.t 0), none, 0⟩,
   ⟨(some 3), .box 7 (.t 1), none, 0⟩,
   ⟨(some 4), .alloc [.pv (.int .i64 (0)), .pv (.bool false), .pv (.int .i64 (0)), .pv (.str []), .pv (.int .i64 (0)), .pv (.int .i64 (0)), .pv (.int .i64 (0))], none, 0⟩,
   ⟨(some 5), .mv (.c (.pv (.int .i64 (0)))), none, 0⟩] false)
 (.seq (.reg [⟨(some 10), .faddr (.t 2) 0, none, 0⟩,
   ⟨(some 11), .faddr (.t 10) 2, none, 1⟩,
   ⟨(some 12), .load false 1 (.t 11), none, 3⟩,
   ⟨(some 13), .build [.pv (.int .i64 (0)), .pv (.bool false), .pv (.int .i64 (0)), .pv (.str []), .pv (.int .i64 (0)), .pv (.int .i64 (0)), .pv (.int .i64 (0))] [(0, 1, .c (.pv (.int .i64 (9)))), (4, 1, .c (.pv (.int .i64 (4))))], none, 0⟩,
   ⟨(some 14), .load true 7 (.t 3), none, 0⟩,
   ⟨(some 15), .call (.f 62) [.t 12, .t 13, .t 14], none, 31⟩,
   ⟨(some 9), .mv (.t 15), none, 63⟩,
   ⟨(some 16), .extract (.t 9) 0, none, 127⟩,
   ⟨(some 17), .extract (.t 9) 1, none, 127⟩,
   ⟨(some 18), .extract (.t 9) 2, none, 127⟩,
   ⟨(some 6), .alloc [.pv (.int .i64 (0)), .pv (.bool false), .pv (.int .i64 (0)), .pv (.str []), .pv (.int .i64 (0)), .pv (.int .i64 (0)), .pv (.int .i64 (0))], none, 0⟩,
   ⟨none, .store 7 (.t 6) (.t 16), none, 1279⟩,
   ⟨(some 7), .mv (.t 17), none, 3583⟩,
   ⟨(some 8), .mv (.t 18), none, 8191⟩] false)
 (.seq (.seq (.reg [⟨(some 19), .mv (.t 8), none, 0⟩,
   ⟨(some 20), .bin .neq (.t 19) (.c (.pv (.int .i64 (0)))), none, 1⟩,
   ⟨(some 21), .mv (.t 20), none, 3⟩,
   ⟨(some 22), .mv (.t 7), (some (21, false)), 7⟩,
   ⟨(some 23), .not (.t 22), (some (21, false)), 15⟩,
   ⟨(some 24), .pick (.t 21) (.c (.pv (.bool true))) (.t 23), none, 31⟩,
   ⟨(some 25), .mv (.t 24), none, 63⟩,
   ⟨(some 26), .faddr (.t 6) 0, (some (25, false)), 127⟩,
   ⟨(some 27), .load false 1 (.t 26), (some (25, false)), 255⟩,
   ⟨(some 28), .bin .neq (.t 27) (.c (.pv (.int .i64 (9)))), (some (25, false)), 511⟩,
   ⟨(some 29), .pick (.t 25) (.c (.pv (.bool true))) (.t 28), none, 1023⟩] false)
 (.cond (.t 29)
  (.seq (.reg [⟨(some 30), .build [.pv (.int .i64 (0)), .pv (.bool false), .pv (.int .i64 (0)), .pv (.str []), .pv (.int .i64 (0)), .pv (.int .i64 (0)), .pv (.int .i64 (0))] [], none, 0⟩,
    ⟨none, .store 7 (.t 4) (.t 30), none, 1⟩,
    ⟨(some 5), .mv (.c (.pv (.int .i64 (24)))), none, 3⟩] false)
  (.ret))
  (.skip)))
 (.seq (.reg [⟨(some 31), .load true 7 (.t 6), none, 0⟩,
   ⟨none, .store 7 (.t 4) (.t 31), none, 1⟩,
   ⟨(some 5), .mv (.c (.pv (.int .i64 (0)))), none, 3⟩] false)
 (.ret))))⟩
def c59 : RFn := ⟨3, 29, [.cell 6 true 7, .tmp 7],
 .seq (.reg [⟨(some 3), .box 67 (.t 0), none, 0⟩,
   ⟨(some 4), .box 7 (.t 1), none, 0⟩,
   ⟨(some 5), .box 7 (.t 2), none, 0⟩,
   ⟨(some 6), .alloc [.pv (.int .i64 (0)), .pv (.bool false), .pv (.int .i64 (0)), .pv (.str []), .pv (.int .i64 (0)), .pv (.int .i64 (0)), .pv (.int .i64 (0))], none, 0⟩,
   ⟨(some 7), .mv (.c (.pv (.int .i64 (0)))), none, 0⟩] false)
 (.seq (.reg [⟨(some 12), .faddr (.t 3) 0, none, 0⟩,
   ⟨(some 13), .faddr (.t 12) 2, none, 1⟩,
   ⟨(some 14), .load false 1 (.t 13), none, 3⟩,
   ⟨(some 15), .load true 7 (.t 4), none, 0⟩,
   ⟨(some 16), .load true 7 (.t 5), none, 0⟩,
   ⟨(some 17), .call (.f 62) [.t 14, .t 15, .t 16], none, 31⟩,
   ⟨(some 11), .mv (.t 17), none, 63⟩,
   ⟨(some 18), .extract (.t 11) 0, none, 127⟩,
   ⟨(some 19), .extract (.t 11) 1, none, 127⟩,
   ⟨(some 20), .extract (.t 11) 2, none, 127⟩,
   ⟨(some 8), .alloc [.pv (.int .i64 (0)), .pv (.bool false), .pv (.int .i64 (0)), .pv (.str []), .pv (.int .i64 (0)), .pv (.int .i64 (0)), .pv (.int .i64 (0))], none, 0⟩,
   ⟨none, .store 7 (.t 8) (.t 18), none, 1279⟩,
   ⟨(some 9), .mv (.t 19), none, 3583⟩,
   ⟨(some 10), .mv (.t 20), none, 8191⟩] false)
 (.seq (.seq (.reg [⟨(some 21), .mv (.t 10), none, 0⟩,
   ⟨(some 22), .bin .eql (.t 21) (.c (.pv (.int .i64 (0)))), none, 1⟩,
   ⟨(some 23), .mv (.t 22), none, 3⟩,
   ⟨(some 24), .mv (.t 9), (some (23, true)), 7⟩,
   ⟨(some 25), .not (.t 24), (some (23, true)), 15⟩,
   ⟨(some 26), .pick (.t 23) (.t 25) (.c (.pv (.bool false))), none, 31⟩] false)
 (.cond (.t 26)
  (.reg [⟨(some 10), .mv (.c (.pv (.int .i64 (40)))), none, 0⟩] false)
  (.skip)))
 (.seq (.reg [⟨(some 27), .load true 7 (.t 8), none, 0⟩,
   ⟨(some 28), .mv (.t 10), none, 0⟩,
   ⟨none, .store 7 (.t 6) (.t 27), none, 1⟩,
   ⟨(some 7), .mv (.t 28), none, 7⟩] false)
 (.ret))))⟩
def c60 : RFn := ⟨2, 29, [.tmp 4, .tmp 5],
 .seq (.reg [⟨(some 3), .box 7 (.t 1), none, 0⟩,
   ⟨(some 4), .mv (.c (.pv (.str []))), none, 0⟩,
   ⟨(some 5), .mv (.c (.pv (.int .i64 (0)))), none, 2⟩] false)
 (.seq (.reg [⟨(some 9), .mv (.t 0), none, 0⟩,
   ⟨(some 10), .load true 7 (.t 3), none, 0⟩,
   ⟨(some 11), .bsl 1 1 [.pv (.int .i64 (0))] [(0, .c (.pv (.int .i64 (6))))], none, 0⟩,
   ⟨(some 12), .call (.f 67) [.t 9, .t 10, .t 11], none, 7⟩,
   ⟨(some 8), .mv (.t 12), none, 15⟩,
   ⟨(some 13), .extract (.t 8) 0, none, 31⟩,
   ⟨(some 14), .extract (.t 8) 1, none, 31⟩,
   ⟨(some 6), .alloc [.emp 7, .pv (.int .i64 (0)), .pv (.bool false), .pv (.int .i64 (0)), .pv (.str []), .pv (.int .i64 (0)), .pv (.int .i64 (0)), .pv (.int .i64 (0))], none, 0⟩,
   ⟨none, .store 8 (.t 6) (.t 13), none, 191⟩,
   ⟨(some 7), .mv (.t 14), none, 511⟩] false)
 (.seq (.seq (.reg [⟨(some 15), .mv (.t 7), none, 0⟩,
   ⟨(some 16), .bin .neq (.t 15) (.c (.pv (.int .i64 (0)))), none, 1⟩] false)
 (.cond (.t 16)
  (.seq (.reg [⟨(some 17), .mv (.t 7), none, 0⟩,
    ⟨(some 4), .mv (.c (.pv (.str []))), none, 0⟩,
    ⟨(some 5), .mv (.t 17), none, 3⟩] false)
  (.ret))
  (.skip)))
 (.seq (.reg [⟨(some 18), .load true 8 (.t 6), none, 0⟩,
   ⟨(some 19), .call (.f 69) [.t 18], none, 1⟩,
   ⟨(some 20), .field false 1 1 (.t 19), none, 3⟩,
   ⟨(some 21), .faddr (.t 3) 5, none, 0⟩,
   ⟨(some 22), .load false 1 (.t 21), none, 8⟩,
   ⟨(some 23), .faddr (.t 3) 5, none, 0⟩,
   ⟨(some 24), .load false 1 (.t 23), none, 32⟩,
   ⟨(some 25), .faddr (.t 3) 6, none, 0⟩,
   ⟨(some 26), .load false 1 (.t 25), none, 128⟩,
   ⟨(some 27), .bin .add (.t 24) (.t 26), none, 480⟩,
   ⟨(some 28), .sslice (.t 20) (some (.t 22)) (some (.t 27)), none, 1023⟩,
   ⟨(some 4), .mv (.t 28), none, 2047⟩,
   ⟨(some 5), .mv (.c (.pv (.int .i64 (0)))), none, 4095⟩] true)
 (.ret))))⟩
def c62 : RFn := ⟨3, 45, [.cell 6 true 7, .tmp 7, .tmp 8],
 .seq (.reg [⟨(some 4), .box 7 (.t 1), none, 0⟩,
   ⟨(some 5), .box 7 (.t 2), none, 0⟩,
   ⟨(some 6), .alloc [.pv (.int .i64 (0)), .pv (.bool false), .pv (.int .i64 (0)), .pv (.str []), .pv (.int .i64 (0)), .pv (.int .i64 (0)), .pv (.int .i64 (0))], none, 0⟩,
   ⟨(some 7), .mv (.c (.pv (.bool false))), none, 0⟩,
   ⟨(some 8), .mv (.c (.pv (.int .i64 (0)))), none, 8⟩] false)
 (.seq (.reg [⟨(some 14), .mv (.t 0), none, 0⟩,
   ⟨(some 15), .load true 7 (.t 4), none, 0⟩,
   ⟨(some 16), .bsl 1 1 [.pv (.int .i64 (0))] [(0, .c (.pv (.int .i64 (9))))], none, 0⟩,
   ⟨(some 17), .call (.f 67) [.t 14, .t 15, .t 16], none, 7⟩,
   ⟨(some 13), .mv (.t 17), none, 15⟩,
   ⟨(some 18), .extract (.t 13) 0, none, 31⟩,
   ⟨(some 19), .extract (.t 13) 1, none, 31⟩,
   ⟨(some 9), .alloc [.emp 7, .pv (.int .i64 (0)), .pv (.bool false), .pv (.int .i64 (0)), .pv (.str []), .pv (.int .i64 (0)), .pv (.int .i64 (0)), .pv (.int .i64 (0))], none, 0⟩,
   ⟨none, .store 8 (.t 9) (.t 18), none, 191⟩,
   ⟨(some 10), .mv (.t 19), none, 511⟩] false)
 (.seq (.seq (.reg [⟨(some 20), .mv (.t 10), none, 0⟩,
   ⟨(some 21), .bin .neq (.t 20) (.c (.pv (.int .i64 (0)))), none, 1⟩] false)
 (.cond (.t 21)
  (.seq (.reg [⟨(some 22), .build [.pv (.int .i64 (0)), .pv (.bool false), .pv (.int .i64 (0)), .pv (.str []), .pv (.int .i64 (0)), .pv (.int .i64 (0)), .pv (.int .i64 (0))] [], none, 0⟩,
    ⟨(some 23), .mv (.t 10), none, 0⟩,
    ⟨none, .store 7 (.t 6) (.t 22), none, 1⟩,
    ⟨(some 7), .mv (.c (.pv (.bool false))), none, 5⟩,
    ⟨(some 8), .mv (.t 23), none, 15⟩] false)
  (.ret))
  (.skip)))
 (.seq (.reg [⟨(some 24), .load true 8 (.t 9), none, 0⟩,
   ⟨(some 25), .call (.f 69) [.t 24], none, 1⟩,
   ⟨(some 11), .alloc [.pv (.int .i64 (0)), .pv (.str []), .emp 7, .emp 7, .emp 7, .pv (.int .i64 (0)), .pv (.int .i64 (0))], none, 0⟩,
   ⟨none, .store 7 (.t 11) (.t 25), none, 7⟩] false)
 (.seq (.reg [⟨(some 26), .faddr (.t 11) 3, none, 0⟩,
   ⟨(some 27), .load false 1 (.t 26), none, 1⟩,
   ⟨(some 28), .load true 7 (.t 5), none, 0⟩,
   ⟨(some 29), .call (.f 97) [.t 27, .t 28], none, 7⟩,
   ⟨(some 12), .mv (.t 29), none, 15⟩] false)
 (.seq (.seq (.reg [⟨(some 30), .mv (.t 12), none, 0⟩,
   ⟨(some 31), .bin .lss (.t 30) (.c (.pv (.int .i64 (0)))), none, 1⟩,
   ⟨(some 32), .mv (.t 31), none, 3⟩,
   ⟨(some 33), .mv (.t 12), (some (32, false)), 7⟩,
   ⟨(some 34), .faddr (.t 11) 4, (some (32, false)), 7⟩,
   ⟨(some 35), .load false 1 (.t 34), (some (32, false)), 23⟩,
   ⟨(some 36), .slen (.t 35), (some (32, false)), 55⟩,
   ⟨(some 37), .bin .geq (.t 33) (.t 36), (some (32, false)), 127⟩,
   ⟨(some 38), .pick (.t 32) (.c (.pv (.bool true))) (.t 37), none, 255⟩] false)
 (.cond (.t 38)
  (.seq (.reg [⟨(some 39), .build [.pv (.int .i64 (0)), .pv (.bool false), .pv (.int .i64 (0)), .pv (.str []), .pv (.int .i64 (0)), .pv (.int .i64 (0)), .pv (.int .i64 (0))] [], none, 0⟩,
    ⟨none, .store 7 (.t 6) (.t 39), none, 1⟩,
    ⟨(some 7), .mv (.c (.pv (.bool false))), none, 3⟩,
    ⟨(some 8), .mv (.c (.pv (.int .i64 (0)))), none, 7⟩] false)
  (.ret))
  (.skip)))
 (.seq (.reg [⟨(some 40), .faddr (.t 11) 4, none, 0⟩,
   ⟨(some 41), .load false 1 (.t 40), none, 1⟩,
   ⟨(some 42), .mv (.t 12), none, 0⟩,
   ⟨(some 43), .iaddr 7 (.t 41) (.t 42), none, 7⟩,
   ⟨(some 44), .load true 7 (.t 43), none, 15⟩,
   ⟨none, .store 7 (.t 6) (.t 44), none, 31⟩,
   ⟨(some 7), .mv (.c (.pv (.bool true))), none, 63⟩,
   ⟨(some 8), .mv (.c (.pv (.int .i64 (0)))), none, 127⟩] false)
 (.ret)))))))⟩
def c63 : RFn := ⟨4, 84, [.tmp 8, .tmp 9],
 .seq (.reg [⟨(some 5), .box 7 (.t 1), none, 0⟩,
   ⟨(some 6), .box 7 (.t 2), none, 0⟩,
   ⟨(some 7), .box 7 (.t 3), none, 0⟩,
   ⟨(some 8), .mv (.c (.emp 7)), none, 0⟩,
   ⟨(some 9), .mv (.c (.pv (.int .i64 (0)))), none, 8⟩] false)
 (.seq (.reg [⟨(some 15), .mv (.t 0), none, 0⟩,
   ⟨(some 16), .load true 7 (.t 5), none, 0⟩,
   ⟨(some 17), .bsl 1 1 [.pv (.int .i64 (0))] [(0, .c (.pv (.int .i64 (9))))], none, 0⟩,
   ⟨(some 18), .call (.f 67) [.t 15, .t 16, .t 17], none, 7⟩,
   ⟨(some 14), .mv (.t 18), none, 15⟩,
   ⟨(some 19), .extract (.t 14) 0, none, 31⟩,
   ⟨(some 20), .extract (.t 14) 1, none, 31⟩,
   ⟨(some 10), .alloc [.emp 7, .pv (.int .i64 (0)), .pv (.bool false), .pv (.int .i64 (0)), .pv (.str []), .pv (.int .i64 (0)), .pv (.int .i64 (0)), .pv (.int .i64 (0))], none, 0⟩,
   ⟨none, .store 8 (.t 10) (.t 19), none, 191⟩,
   ⟨(some 11), .mv (.t 20), none, 511⟩] false)
 (.seq (.seq (.reg [⟨(some 21), .mv (.t 11), none, 0⟩,
   ⟨(some 22), .bin .neq (.t 21) (.c (.pv (.int .i64 (0)))), none, 1⟩] false)
 (.cond (.t 22)
  (.seq (.reg [⟨(some 23), .mv (.t 11), none, 0⟩,
    ⟨(some 8), .mv (.c (.emp 7)), none, 0⟩,
    ⟨(some 9), .mv (.t 23), none, 3⟩] false)
  (.ret))
  (.skip)))
 (.seq (.reg [⟨(some 24), .load true 8 (.t 10), none, 0⟩,
   ⟨(some 25), .call (.f 69) [.t 24], none, 1⟩,
   ⟨(some 12), .alloc [.pv (.int .i64 (0)), .pv (.str []), .emp 7, .emp 7, .emp 7, .pv (.int .i64 (0)), .pv (.int .i64 (0))], none, 0⟩,
   ⟨none, .store 7 (.t 12) (.t 25), none, 7⟩] false)
 (.seq (.seq (.reg [⟨(some 26), .faddr (.t 12) 3, none, 0⟩,
   ⟨(some 27), .load false 1 (.t 26), none, 1⟩,
   ⟨(some 28), .load true 7 (.t 6), none, 0⟩,
   ⟨(some 29), .call (.f 97) [.t 27, .t 28], none, 7⟩,
   ⟨(some 13), .mv (.t 29), none, 15⟩] false)
 (.seq (.reg [⟨(some 30), .mv (.t 13), none, 0⟩,
   ⟨(some 31), .bin .geq (.t 30) (.c (.pv (.int .i64 (0)))), none, 1⟩,
   ⟨(some 32), .mv (.t 31), none, 3⟩,
   ⟨(some 33), .mv (.t 13), (some (32, true)), 7⟩,
   ⟨(some 34), .faddr (.t 12) 4, (some (32, true)), 7⟩,
   ⟨(some 35), .load false 1 (.t 34), (some (32, true)), 23⟩,
   ⟨(some 36), .slen (.t 35), (some (32, true)), 55⟩,
   ⟨(some 37), .bin .lss (.t 33) (.t 36), (some (32, true)), 127⟩,
   ⟨(some 38), .pick (.t 32) (.t 37) (.c (.pv (.bool false))), none, 255⟩] false)
 (.cond (.t 38)
  (.seq (.reg [⟨(some 39), .faddr (.t 12) 4, none, 0⟩,
    ⟨(some 40), .load false 1 (.t 39), none, 1⟩,
    ⟨(some 41), .mv (.t 13), none, 0⟩,
    ⟨(some 42), .load true 7 (.t 7), none, 0⟩,
    ⟨(some 43), .bsl 7 1 [.pv (.int .i64 (0)), .pv (.bool false), .pv (.int .i64 (0)), .pv (.str []), .pv (.int .i64 (0)), .pv (.int .i64 (0)), .pv (.int .i64 (0))] [(0, .t 42)], none, 8⟩,
    ⟨(some 44), .call (.f 72) [.t 40, .t 41, .t 43], none, 31⟩,
    ⟨(some 45), .faddr (.t 12) 4, none, 63⟩,
    ⟨none, .store 1 (.t 45) (.t 44), none, 127⟩] false)
  (.seq (.reg [⟨(some 46), .load true 8 (.t 10), none, 0⟩,
    ⟨(some 47), .load true 7 (.t 12), none, 0⟩,
    ⟨(some 48), .call (.f 71) [.t 46, .t 47], none, 3⟩,
    ⟨(some 8), .mv (.t 48), none, 7⟩,
    ⟨(some 9), .mv (.c (.pv (.int .i64 (0)))), none, 15⟩] false)
  (.ret)))
  (.skip))))
 (.seq (.seq (.reg [⟨(some 49), .faddr (.t 12) 3, none, 0⟩,
   ⟨(some 50), .load false 1 (.t 49), none, 1⟩,
   ⟨(some 51), .slen (.t 50), none, 3⟩,
   ⟨(some 52), .faddr (.t 12) 5, none, 0⟩,
   ⟨(some 53), .load false 1 (.t 52), none, 8⟩,
   ⟨(some 54), .bin .geq (.t 51) (.t 53), none, 31⟩] false)
 (.cond (.t 54)
  (.seq (.reg [⟨(some 8), .mv (.c (.emp 7)), none, 0⟩,
    ⟨(some 9), .mv (.c (.pv (.int .i64 (30)))), none, 1⟩] false)
  (.ret))
  (.skip)))
 (.seq (.reg [⟨(some 55), .faddr (.t 12) 3, none, 0⟩,
   ⟨(some 56), .load false 1 (.t 55), none, 1⟩,
   ⟨(some 57), .faddr (.t 12) 3, none, 0⟩,
   ⟨(some 58), .load false 1 (.t 57), none, 4⟩,
   ⟨(some 59), .slen (.t 58), none, 12⟩,
   ⟨(some 60), .faddr (.t 12) 3, none, 0⟩,
   ⟨(some 61), .load false 1 (.t 60), none, 32⟩,
   ⟨(some 62), .slen (.t 61), none, 96⟩,
   ⟨(some 63), .slice 7 (.t 56) none (some (.t 59)) (some (.t 62)), none, 255⟩,
   ⟨(some 64), .load true 7 (.t 6), none, 0⟩,
   ⟨(some 65), .bsl 7 1 [.pv (.int .i64 (0)), .pv (.bool false), .pv (.int .i64 (0)), .pv (.str []), .pv (.int .i64 (0)), .pv (.int .i64 (0)), .pv (.int .i64 (0))] [(0, .t 64)], none, 512⟩,
   ⟨(some 66), .append 7 64 (.t 63) (.t 65), none, 2047⟩,
   ⟨(some 67), .faddr (.t 12) 3, none, 4095⟩,
   ⟨none, .store 1 (.t 67) (.t 66), none, 8191⟩] true)
 (.seq (.reg [⟨(some 68), .faddr (.t 12) 4, none, 0⟩,
   ⟨(some 69), .load false 1 (.t 68), none, 1⟩,
   ⟨(some 70), .faddr (.t 12) 4, none, 0⟩,
   ⟨(some 71), .load false 1 (.t 70), none, 4⟩,
   ⟨(some 72), .slen (.t 71), none, 12⟩,
   ⟨(some 73), .faddr (.t 12) 4, none, 0⟩,
   ⟨(some 74), .load false 1 (.t 73), none, 32⟩,
   ⟨(some 75), .slen (.t 74), none, 96⟩,
   ⟨(some 76), .slice 7 (.t 69) none (some (.t 72)) (some (.t 75)), none, 255⟩,
   ⟨(some 77), .load true 7 (.t 7), none, 0⟩,
   ⟨(some 78), .bsl 7 1 [.pv (.int .i64 (0)), .pv (.bool false), .pv (.int .i64 (0)), .pv (.str []), .pv (.int .i64 (0)), .pv (.int .i64 (0)), .pv (.int .i64 (0))] [(0, .t 77)], none, 512⟩,
   ⟨(some 79), .append 7 64 (.t 76) (.t 78), none, 2047⟩,
   ⟨(some 80), .faddr (.t 12) 4, none, 4095⟩,
   ⟨none, .store 1 (.t 80) (.t 79), none, 8191⟩] true)
 (.seq (.reg [⟨(some 81), .load true 8 (.t 10), none, 0⟩,
   ⟨(some 82), .load true 7 (.t 12), none, 0⟩,
   ⟨(some 83), .call (.f 71) [.t 81, .t 82], none, 3⟩,
   ⟨(some 8), .mv (.t 83), none, 7⟩,
   ⟨(some 9), .mv (.c (.pv (.int .i64 (0)))), none, 15⟩] false)
 (.ret)))))))))⟩
def c66 : RFn := ⟨1, 30, [.tmp 2],
 .seq (.reg [⟨(some 1), .box 7 (.t 0), none, 0⟩,
   ⟨(some 2), .mv (.c (.pv (.int .i64 (0)))), none, 0⟩] false)
 (.scope
  (.seq (.seq (.reg [⟨(some 7), .faddr (.t 1) 0, none, 0⟩,
    ⟨(some 8), .load false 1 (.t 7), none, 1⟩,
    ⟨(some 9), .bin .lss (.t 8) (.c (.pv (.int .i64 (0)))), none, 3⟩,
    ⟨(some 10), .mv (.t 9), none, 7⟩,
    ⟨(some 11), .faddr (.t 1) 0, (some (10, false)), 15⟩,
    ⟨(some 12), .load false 1 (.t 11), (some (10, false)), 31⟩,
    ⟨(some 13), .bin .geq (.t 12) (.c (.pv (.int .i64 (13)))), (some (10, false)), 63⟩,
    ⟨(some 14), .pick (.t 10) (.c (.pv (.bool true))) (.t 13), none, 127⟩] false)
  (.cond (.t 14)
   (.seq (.reg [⟨(some 2), .mv (.c (.pv (.int .i64 (200)))), none, 0⟩] false)
   (.ret))
   (.skip)))
  (.seq (.reg [⟨(some 15), .call (.f 100) [], none, 0⟩,
    ⟨(some 16), .faddr (.t 1) 0, none, 0⟩,
    ⟨(some 17), .load false 1 (.t 16), none, 2⟩,
    ⟨(some 18), .index true 13 6 (.t 15) (.t 17), none, 7⟩,
    ⟨(some 3), .alloc [.pv (.str []), .pv (.int .i64 (0)), .pv (.int .i64 (0)), .pv (.int .i64 (0)), .pv (.int .i64 (0)), .pv (.int .i64 (0))], none, 0⟩,
    ⟨none, .store 6 (.t 3) (.t 18), none, 31⟩] true)
  (.seq (.reg [⟨(some 4), .mv (.c (.pv (.int .i64 (0)))), none, 0⟩] false)
  (.seq (.skip)
  (.seq (.seq (.reg [⟨(some 19), .build [.pv .nilFunc, .pv .nilFunc, .pv .nilFunc] [(0, 1, .f 101), (1, 1, .f 102), (2, 1, .f 103)], none, 0⟩,
    ⟨(some 20), .mv (.c (.pv (.int .i64 (0)))), none, 0⟩] false)
  (.block 0
   (.loop [1, 3, 4, 19, 20]
    (.seq (.reg [⟨(some 21), .bin .lss (.t 20) (.c (.pv (.int .i64 (3)))), none, 0⟩] false)
    (.seq (.cond (.t 21)
     (.skip)
     (.exit 0))
    (.seq (.block 1
     (.seq (.reg [⟨(some 22), .index false 3 1 (.t 19) (.t 20), none, 0⟩,
       ⟨(some 6), .mv (.t 22), none, 1⟩] false)
     (.seq (.reg [⟨(some 23), .mv (.t 6), none, 0⟩,
       ⟨(some 24), .load true 6 (.t 3), none, 0⟩,
       ⟨(some 25), .load true 7 (.t 1), none, 0⟩,
       ⟨(some 26), .call (.t 23) [.t 24, .t 25], none, 7⟩,
       ⟨(some 27), .not (.t 26), none, 15⟩] false)
     (.cond (.t 27)
      (.seq (.reg [⟨(some 4), .mv (.c (.pv (.int .i64 (200)))), none, 0⟩] false)
      (.exit 0))
      (.skip)))))
    (.reg [⟨(some 28), .bin .add (.t 20) (.c (.pv (.int .i64 (1)))), none, 0⟩,
      ⟨(some 20), .mv (.t 28), none, 1⟩] false)))))))
  (.seq (.reg [⟨(some 29), .mv (.t 4), none, 0⟩,
    ⟨(some 2), .mv (.t 29), none, 1⟩] false)
  (.ret))))))))⟩
def c67 : RFn := ⟨3, 23, [.cell 6 true 8, .tmp 7],
 .seq (.reg [⟨(some 4), .box 7 (.t 1), none, 0⟩,
   ⟨(some 6), .alloc [.emp 7, .pv (.int .i64 (0)), .pv (.bool false), .pv (.int .i64 (0)), .pv (.str []), .pv (.int .i64 (0)), .pv (.int .i64 (0)), .pv (.int .i64 (0))], none, 0⟩,
   ⟨(some 7), .mv (.c (.pv (.int .i64 (0)))), none, 0⟩] false)
 (.seq (.seq (.reg [⟨(some 8), .mv (.t 0), none, 0⟩,
   ⟨(some 9), .load true 7 (.t 4), none, 0⟩,
   ⟨(some 10), .call (.f 41) [.t 8, .t 9], none, 3⟩,
   ⟨(some 11), .not (.t 10), none, 7⟩] false)
 (.cond (.t 11)
  (.seq (.reg [⟨(some 12), .build [.emp 7, .pv (.int .i64 (0)), .pv (.bool false), .pv (.int .i64 (0)), .pv (.str []), .pv (.int .i64 (0)), .pv (.int .i64 (0)), .pv (.int .i64 (0))] [], none, 0⟩,
    ⟨none, .store 8 (.t 6) (.t 12), none, 1⟩,
    ⟨(some 7), .mv (.c (.pv (.int .i64 (2)))), none, 3⟩] false)
  (.ret))
  (.skip)))
 (.seq (.seq (.reg [⟨(some 13), .mv (.t 2), none, 0⟩,
   ⟨(some 14), .faddr (.t 4) 0, none, 0⟩,
   ⟨(some 15), .load false 1 (.t 14), none, 2⟩,
   ⟨(some 16), .call (.f 104) [.t 13, .t 15], none, 7⟩,
   ⟨(some 17), .not (.t 16), none, 15⟩] false)
 (.cond (.t 17)
  (.seq (.reg [⟨(some 18), .build [.emp 7, .pv (.int .i64 (0)), .pv (.bool false), .pv (.int .i64 (0)), .pv (.str []), .pv (.int .i64 (0)), .pv (.int .i64 (0)), .pv (.int .i64 (0))] [], none, 0⟩,
    ⟨none, .store 8 (.t 6) (.t 18), none, 1⟩,
    ⟨(some 7), .mv (.c (.pv (.int .i64 (22)))), none, 3⟩] false)
  (.ret))
  (.skip)))
 (.seq (.reg [⟨(some 19), .mv (.t 0), none, 0⟩,
   ⟨(some 20), .build [.emp 7] [(0, 1, .t 19)], none, 1⟩,
   ⟨(some 21), .load true 7 (.t 4), none, 0⟩,
   ⟨(some 22), .build [.emp 7, .pv (.int .i64 (0)), .pv (.bool false), .pv (.int .i64 (0)), .pv (.str []), .pv (.int .i64 (0)), .pv (.int .i64 (0)), .pv (.int .i64 (0))] [(0, 1, .t 20), (1, 7, .t 21)], none, 7⟩,
   ⟨none, .store 8 (.t 6) (.t 22), none, 15⟩,
   ⟨(some 7), .mv (.c (.pv (.int .i64 (0)))), none, 31⟩] false)
 (.ret))))⟩
def c69 : RFn := ⟨1, 11, [.cell 2 true 7],
 .seq (.reg [⟨(some 1), .box 8 (.t 0), none, 0⟩,
   ⟨(some 2), .alloc [.pv (.int .i64 (0)), .pv (.str []), .emp 7, .emp 7, .emp 7, .pv (.int .i64 (0)), .pv (.int .i64 (0))], none, 0⟩] false)
 (.seq (.reg [⟨(some 3), .faddr (.t 1) 0, none, 0⟩,
   ⟨(some 4), .faddr (.t 3) 0, none, 1⟩,
   ⟨(some 5), .load false 1 (.t 4), none, 3⟩,
   ⟨(some 6), .faddr (.t 1) 1, none, 0⟩,
   ⟨(some 7), .faddr (.t 6) 4, none, 8⟩,
   ⟨(some 8), .load false 1 (.t 7), none, 24⟩,
   ⟨(some 9), .iaddr 7 (.t 5) (.t 8), none, 63⟩,
   ⟨(some 10), .load true 7 (.t 9), none, 127⟩,
   ⟨none, .store 7 (.t 2) (.t 10), none, 255⟩] false)
 (.ret))⟩
def c71 : RFn := ⟨2, 23, [.tmp 4],
 .seq (.reg [⟨(some 2), .box 8 (.t 0), none, 0⟩,
   ⟨(some 3), .box 7 (.t 1), none, 0⟩,
   ⟨(some 4), .mv (.c (.emp 7)), none, 0⟩] false)
 (.seq (.reg [⟨(some 6), .faddr (.t 2) 0, none, 0⟩,
   ⟨(some 7), .faddr (.t 6) 0, none, 1⟩,
   ⟨(some 8), .load false 1 (.t 7), none, 3⟩,
   ⟨(some 9), .slen (.t 8), none, 7⟩,
   ⟨(some 10), .mksl 7 112 [.int .i64 (0), .str [], .sl 7 [], .sl 7 [], .sl 7 [], .int .i64 (0), .int .i64 (0)] (.t 9), none, 15⟩,
   ⟨(some 5), .mv (.t 10), none, 31⟩] false)
 (.seq (.reg [⟨(some 11), .mv (.t 5), none, 0⟩,
   ⟨(some 12), .faddr (.t 2) 0, none, 0⟩,
   ⟨(some 13), .faddr (.t 12) 0, none, 2⟩,
   ⟨(some 14), .load false 1 (.t 13), none, 6⟩,
   ⟨(some 15), .copy 7 (.t 11) (.t 14), none, 15⟩] false)
 (.seq (.reg [⟨(some 16), .mv (.t 5), none, 0⟩,
   ⟨(some 17), .faddr (.t 2) 1, none, 0⟩,
   ⟨(some 18), .faddr (.t 17) 4, none, 2⟩,
   ⟨(some 19), .load false 1 (.t 18), none, 6⟩,
   ⟨(some 20), .load true 7 (.t 3), none, 0⟩,
   ⟨(some 21), .iaddr 7 (.t 16) (.t 19), none, 31⟩,
   ⟨none, .store 7 (.t 21) (.t 20), none, 63⟩] false)
 (.seq (.reg [⟨(some 22), .mv (.t 5), none, 0⟩,
   ⟨(some 4), .mv (.t 22), none, 1⟩] false)
 (.ret)))))⟩
def c72 : RFn := ⟨3, 20, [.tmp 6],
 .seq (.reg [⟨(some 6), .mv (.c (.emp 7)), none, 0⟩] false)
 (.seq (.reg [⟨(some 8), .mv (.t 0), none, 0⟩,
   ⟨(some 9), .slen (.t 8), none, 1⟩,
   ⟨(some 10), .mksl 7 64 [.int .i64 (0), .bool false, .int .i64 (0), .str [], .int .i64 (0), .int .i64 (0), .int .i64 (0)] (.t 9), none, 3⟩,
   ⟨(some 7), .mv (.t 10), none, 7⟩] false)
 (.seq (.reg [⟨(some 11), .mv (.t 7), none, 0⟩,
   ⟨(some 12), .mv (.t 0), none, 0⟩,
   ⟨(some 13), .copy 7 (.t 11) (.t 12), none, 3⟩] false)
 (.seq (.reg [⟨(some 14), .mv (.t 7), none, 0⟩,
   ⟨(some 15), .mv (.t 1), none, 0⟩,
   ⟨(some 16), .slice 7 (.t 14) (some (.t 15)) none none, none, 3⟩,
   ⟨(some 17), .mv (.t 2), none, 0⟩,
   ⟨(some 18), .copy 7 (.t 16) (.t 17), none, 15⟩] false)
 (.seq (.reg [⟨(some 19), .mv (.t 7), none, 0⟩,
   ⟨(some 6), .mv (.t 19), none, 1⟩] false)
 (.ret)))))⟩
def c73 : RFn := ⟨1, 37, [.cell 2 true 7, .tmp 3],
 .seq (.reg [⟨(some 1), .box 7 (.t 0), none, 0⟩,
   ⟨(some 2), .alloc [.pv (.int .i64 (0)), .pv (.bool false), .pv (.int .i64 (0)), .pv (.str []), .pv (.int .i64 (0)), .pv (.int .i64 (0)), .pv (.int .i64 (0))], none, 0⟩,
   ⟨(some 3), .mv (.c (.pv (.int .i64 (0)))), none, 0⟩] false)
 (.seq (.seq (.reg [⟨(some 5), .load true 7 (.t 1), none, 0⟩,
   ⟨(some 6), .call (.f 66) [.t 5], none, 1⟩,
   ⟨(some 4), .mv (.t 6), none, 3⟩] false)
 (.seq (.reg [⟨(some 7), .mv (.t 4), none, 0⟩,
   ⟨(some 8), .bin .neq (.t 7) (.c (.pv (.int .i64 (0)))), none, 1⟩] false)
 (.cond (.t 8)
  (.seq (.reg [⟨(some 9), .build [.pv (.int .i64 (0)), .pv (.bool false), .pv (.int .i64 (0)), .pv (.str []), .pv (.int .i64 (0)), .pv (.int .i64 (0)), .pv (.int .i64 (0))] [], none, 0⟩,
    ⟨(some 10), .mv (.t 4), none, 0⟩,
    ⟨none, .store 7 (.t 2) (.t 9), none, 1⟩,
    ⟨(some 3), .mv (.t 10), none, 7⟩] false)
  (.ret))
  (.skip))))
 (.seq (.seq (.reg [⟨(some 11), .load true 7 (.t 1), none, 0⟩,
   ⟨(some 12), .faddr (.t 1) 1, none, 0⟩,
   ⟨(some 13), .load false 1 (.t 12), none, 2⟩,
   ⟨(some 14), .build [.pv (.int .i64 (0)), .pv (.bool false), .pv (.int .i64 (0)), .pv (.str []), .pv (.int .i64 (0)), .pv (.int .i64 (0)), .pv (.int .i64 (0))] [(0, 1, .c (.pv (.int .i64 (0)))), (1, 1, .t 13)], none, 6⟩,
   ⟨(some 15), .eqs false [0, 1, 0, 2, 0, 0, 0] (.t 11) (.t 14), none, 15⟩,
   ⟨(some 16), .mv (.t 15), none, 31⟩,
   ⟨(some 17), .faddr (.t 1) 0, (some (16, false)), 63⟩,
   ⟨(some 18), .load false 1 (.t 17), (some (16, false)), 127⟩,
   ⟨(some 19), .bin .eql (.t 18) (.c (.pv (.int .i64 (6)))), (some (16, false)), 255⟩,
   ⟨(some 20), .pick (.t 16) (.c (.pv (.bool true))) (.t 19), none, 511⟩] false)
 (.cond (.t 20)
  (.seq (.reg [⟨(some 21), .build [.pv (.int .i64 (0)), .pv (.bool false), .pv (.int .i64 (0)), .pv (.str []), .pv (.int .i64 (0)), .pv (.int .i64 (0)), .pv (.int .i64 (0))] [], none, 0⟩,
    ⟨none, .store 7 (.t 2) (.t 21), none, 1⟩,
    ⟨(some 3), .mv (.c (.pv (.int .i64 (22)))), none, 3⟩] false)
  (.ret))
  (.skip)))
 (.seq (.seq (.reg [⟨(some 22), .faddr (.t 1) 0, none, 0⟩,
   ⟨(some 23), .load false 1 (.t 22), none, 1⟩,
   ⟨(some 24), .bin .eql (.t 23) (.c (.pv (.int .i64 (4)))), none, 3⟩,
   ⟨(some 25), .mv (.t 24), none, 7⟩,
   ⟨(some 26), .faddr (.t 1) 2, (some (25, true)), 15⟩,
   ⟨(some 27), .load false 1 (.t 26), (some (25, true)), 31⟩,
   ⟨(some 28), .bin .rem (.t 27) (.c (.pv (.int .i64 (65536)))), (some (25, true)), 63⟩,
   ⟨(some 29), .bin .eql (.t 28) (.c (.pv (.int .i64 (0)))), (some (25, true)), 127⟩,
   ⟨(some 30), .pick (.t 25) (.t 29) (.c (.pv (.bool false))), none, 255⟩] false)
 (.cond (.t 30)
  (.seq (.reg [⟨(some 31), .load true 7 (.t 1), none, 0⟩,
    ⟨(some 32), .call (.f 105) [.t 31], none, 1⟩,
    ⟨(some 33), .extract (.t 32) 0, none, 3⟩,
    ⟨(some 34), .extract (.t 32) 1, none, 3⟩,
    ⟨none, .store 7 (.t 2) (.t 33), none, 15⟩,
    ⟨(some 3), .mv (.t 34), none, 31⟩] false)
  (.ret))
  (.skip)))
 (.seq (.reg [⟨(some 35), .faddr (.t 1) 1, none, 0⟩,
   ⟨none, .store 1 (.t 35) (.c (.pv (.bool false))), none, 1⟩] false)
 (.seq (.reg [⟨(some 36), .load true 7 (.t 1), none, 0⟩,
   ⟨none, .store 7 (.t 2) (.t 36), none, 1⟩,
   ⟨(some 3), .mv (.c (.pv (.int .i64 (0)))), none, 3⟩] false)
 (.ret))))))⟩
def c74 : RFn := ⟨2, 11, [.cell 4 true 7, .tmp 5],
 .seq (.reg [⟨(some 3), .box 1 (.t 1), none, 0⟩,
   ⟨(some 4), .alloc [.pv (.int .i64 (0)), .pv (.bool false), .pv (.int .i64 (0)), .pv (.str []), .pv (.int .i64 (0)), .pv (.int .i64 (0)), .pv (.int .i64 (0))], none, 0⟩,
   ⟨(some 5), .mv (.c (.pv (.int .i64 (0)))), none, 0⟩] false)
 (.seq (.reg [⟨(some 6), .mv (.t 0), none, 0⟩,
   ⟨(some 7), .mkf (.func 107) [] [.t 3], none, 0⟩,
   ⟨(some 8), .call (.f 106) [.t 6, .t 7], none, 3⟩,
   ⟨(some 9), .extract (.t 8) 0, none, 7⟩,
   ⟨(some 10), .extract (.t 8) 1, none, 7⟩,
   ⟨none, .store 7 (.t 4) (.t 9), none, 31⟩,
   ⟨(some 5), .mv (.t 10), none, 63⟩] false)
 (.ret))⟩
def c80 : RFn := ⟨1, 6, [.tmp 2],
 .seq (.reg [⟨(some 2), .mv (.c (.pv (.int .i64 (0)))), none, 0⟩] false)
 (.seq (.reg [⟨(some 3), .build [.pv (.int .i64 (0)), .pv (.int .i64 (0)), .pv (.int .i64 (0)), .pv (.int .i64 (0)), .pv (.int .i64 (0)), .pv (.int .i64 (0)), .pv (.int .i64 (0)), .pv (.int .i64 (0)), .pv (.int .i64 (0)), .pv (.int .i64 (0)), .pv (.int .i64 (0)), .pv (.int .i64 (0)), .pv (.int .i64 (0)), .pv (.int .i64 (0))] [(6, 1, .c (.pv (.int .i64 (1)))), (7, 1, .c (.pv (.int .i64 (2)))), (8, 1, .c (.pv (.int .i64 (2)))), (9, 1, .c (.pv (.int .i64 (3)))), (11, 1, .c (.pv (.int .i64 (4)))), (13, 1, .c (.pv (.int .i64 (0))))], none, 0⟩,
   ⟨(some 4), .mv (.t 0), none, 0⟩,
   ⟨(some 5), .index false 14 1 (.t 3) (.t 4), none, 3⟩,
   ⟨(some 2), .mv (.t 5), none, 7⟩] false)
 (.ret))⟩
def c81 : RFn := ⟨1, 12, [.tmp 2],
 .seq (.reg [⟨(some 1), .box 7 (.t 0), none, 0⟩,
   ⟨(some 2), .mv (.c (.pv (.int .i64 (0)))), none, 0⟩] false)
 (.seq (.seq (.reg [⟨(some 3), .faddr (.t 1) 0, none, 0⟩,
   ⟨(some 4), .load false 1 (.t 3), none, 1⟩,
   ⟨(some 5), .bin .eql (.t 4) (.c (.pv (.int .i64 (1)))), none, 3⟩] false)
 (.cond (.t 5)
  (.seq (.reg [⟨(some 6), .faddr (.t 1) 1, none, 0⟩,
    ⟨(some 7), .load false 1 (.t 6), none, 1⟩,
    ⟨(some 8), .strlen (.t 7), none, 3⟩,
    ⟨(some 2), .mv (.t 8), none, 7⟩] false)
  (.ret))
  (.skip)))
 (.seq (.reg [⟨(some 9), .faddr (.t 1) 2, none, 0⟩,
   ⟨(some 10), .load false 1 (.t 9), none, 1⟩,
   ⟨(some 11), .slen (.t 10), none, 3⟩,
   ⟨(some 2), .mv (.t 11), none, 7⟩] false)
 (.ret)))⟩
def c83 : RFn := ⟨2, 26, [.tmp 4],
 .seq (.reg [⟨(some 4), .mv (.c (.pv (.bool false))), none, 0⟩] false)
 (.seq (.seq (.reg [⟨(some 6), .mv (.t 0), none, 0⟩,
   ⟨(some 7), .slen (.t 6), none, 1⟩,
   ⟨(some 8), .mv (.t 1), none, 0⟩,
   ⟨(some 9), .slen (.t 8), none, 4⟩,
   ⟨(some 10), .bin .neq (.t 7) (.t 9), none, 15⟩] false)
 (.cond (.t 10)
  (.seq (.reg [⟨(some 4), .mv (.c (.pv (.bool false))), none, 0⟩] false)
  (.ret))
  (.skip)))
 (.seq (.seq (.reg [⟨(some 5), .mv (.c (.pv (.int .i64 (0)))), none, 0⟩] false)
 (.block 0
  (.loop [0, 1, 5]
   (.seq (.seq (.reg [⟨(some 11), .mv (.t 5), none, 0⟩,
     ⟨(some 12), .mv (.t 0), none, 0⟩,
     ⟨(some 13), .slen (.t 12), none, 2⟩,
     ⟨(some 14), .bin .lss (.t 11) (.t 13), none, 7⟩] false)
   (.cond (.t 14)
    (.skip)
    (.exit 0)))
   (.seq (.block 1
    (.seq (.reg [⟨(some 17), .mv (.t 0), none, 0⟩,
      ⟨(some 18), .mv (.t 5), none, 0⟩,
      ⟨(some 19), .iaddr 7 (.t 17) (.t 18), none, 3⟩,
      ⟨(some 20), .load true 7 (.t 19), none, 7⟩,
      ⟨(some 21), .mv (.t 1), none, 0⟩,
      ⟨(some 22), .mv (.t 5), none, 0⟩,
      ⟨(some 23), .iaddr 7 (.t 21) (.t 22), none, 48⟩,
      ⟨(some 24), .load true 7 (.t 23), none, 112⟩,
      ⟨(some 25), .eqs true [0, 1, 0, 2, 0, 0, 0] (.t 20) (.t 24), none, 255⟩] true)
    (.cond (.t 25)
     (.seq (.reg [⟨(some 4), .mv (.c (.pv (.bool false))), none, 0⟩] false)
     (.ret))
     (.skip))))
   (.reg [⟨(some 15), .mv (.t 5), none, 0⟩,
     ⟨(some 16), .bin .add (.t 15) (.c (.pv (.int .i64 (1)))), none, 1⟩,
     ⟨(some 5), .mv (.t 16), none, 3⟩] false))))))
 (.seq (.reg [⟨(some 4), .mv (.c (.pv (.bool true))), none, 0⟩] false)
 (.ret))))⟩
def c84 : RFn := ⟨2, 27, [.tmp 4],
 .seq (.reg [⟨(some 4), .mv (.c (.pv (.bool false))), none, 0⟩] false)
 (.seq (.seq (.reg [⟨(some 6), .mv (.t 0), none, 0⟩,
   ⟨(some 7), .slen (.t 6), none, 1⟩,
   ⟨(some 8), .mv (.t 1), none, 0⟩,
   ⟨(some 9), .slen (.t 8), none, 4⟩,
   ⟨(some 10), .bin .neq (.t 7) (.t 9), none, 15⟩] false)
 (.cond (.t 10)
  (.seq (.reg [⟨(some 4), .mv (.c (.pv (.bool false))), none, 0⟩] false)
  (.ret))
  (.skip)))
 (.seq (.seq (.reg [⟨(some 5), .mv (.c (.pv (.int .i64 (0)))), none, 0⟩] false)
 (.block 0
  (.loop [0, 1, 5]
   (.seq (.seq (.reg [⟨(some 11), .mv (.t 5), none, 0⟩,
     ⟨(some 12), .mv (.t 0), none, 0⟩,
     ⟨(some 13), .slen (.t 12), none, 2⟩,
     ⟨(some 14), .bin .lss (.t 11) (.t 13), none, 7⟩] false)
   (.cond (.t 14)
    (.skip)
    (.exit 0)))
   (.seq (.block 1
    (.seq (.reg [⟨(some 17), .mv (.t 0), none, 0⟩,
      ⟨(some 18), .mv (.t 5), none, 0⟩,
      ⟨(some 19), .iaddr 7 (.t 17) (.t 18), none, 3⟩,
      ⟨(some 20), .load true 7 (.t 19), none, 7⟩,
      ⟨(some 21), .mv (.t 1), none, 0⟩,
      ⟨(some 22), .mv (.t 5), none, 0⟩,
      ⟨(some 23), .iaddr 7 (.t 21) (.t 22), none, 48⟩,
      ⟨(some 24), .load true 7 (.t 23), none, 112⟩,
      ⟨(some 25), .call (.f 111) [.t 20, .t 24], none, 255⟩,
      ⟨(some 26), .not (.t 25), none, 511⟩] true)
    (.cond (.t 26)
     (.seq (.reg [⟨(some 4), .mv (.c (.pv (.bool false))), none, 0⟩] false)
     (.ret))
     (.skip))))
   (.reg [⟨(some 15), .mv (.t 5), none, 0⟩,
     ⟨(some 16), .bin .add (.t 15) (.c (.pv (.int .i64 (1)))), none, 1⟩,
     ⟨(some 5), .mv (.t 16), none, 3⟩] false))))))
 (.seq (.reg [⟨(some 4), .mv (.c (.pv (.bool true))), none, 0⟩] false)
 (.ret))))⟩
def c85 : RFn := ⟨2, 90, [.tmp 4],
 .seq (.reg [⟨(some 2), .box 57 (.t 0), none, 0⟩,
   ⟨(some 3), .box 57 (.t 1), none, 0⟩,
   ⟨(some 4), .mv (.c (.pv (.bool false))), none, 0⟩] false)
 (.seq (.reg [⟨(some 5), .faddr (.t 2) 0, none, 0⟩,
   ⟨(some 6), .load true 6 (.t 5), none, 1⟩,
   ⟨(some 7), .faddr (.t 3) 0, none, 0⟩,
   ⟨(some 8), .load true 6 (.t 7), none, 4⟩,
   ⟨(some 9), .eqs false [0, 0, 0, 0, 0, 0] (.t 6) (.t 8), none, 15⟩,
   ⟨(some 10), .mv (.t 9), none, 31⟩,
   ⟨(some 11), .faddr (.t 2) 6, (some (10, true)), 63⟩,
   ⟨(some 12), .load false 1 (.t 11), (some (10, true)), 127⟩,
   ⟨(some 13), .slen (.t 12), (some (10, true)), 255⟩,
   ⟨(some 14), .faddr (.t 3) 6, (some (10, true)), 63⟩,
   ⟨(some 15), .load false 1 (.t 14), (some (10, true)), 575⟩,
   ⟨(some 16), .slen (.t 15), (some (10, true)), 1599⟩,
   ⟨(some 17), .bin .eql (.t 13) (.t 16), (some (10, true)), 4095⟩,
   ⟨(some 18), .pick (.t 10) (.t 17) (.c (.pv (.bool false))), none, 8191⟩,
   ⟨(some 19), .mv (.t 18), none, 16383⟩,
   ⟨(some 20), .faddr (.t 2) 7, (some (19, true)), 32767⟩,
   ⟨(some 21), .faddr (.t 20) 0, (some (19, true)), 65535⟩,
   ⟨(some 22), .load false 1 (.t 21), (some (19, true)), 131071⟩,
   ⟨(some 23), .faddr (.t 3) 7, (some (19, true)), 32767⟩,
   ⟨(some 24), .faddr (.t 23) 0, (some (19, true)), 294911⟩,
   ⟨(some 25), .load false 1 (.t 24), (some (19, true)), 819199⟩,
   ⟨(some 26), .bin .eql (.t 22) (.t 25), (some (19, true)), 2097151⟩,
   ⟨(some 27), .pick (.t 19) (.t 26) (.c (.pv (.bool false))), none, 4194303⟩,
   ⟨(some 28), .mv (.t 27), none, 8388607⟩,
   ⟨(some 29), .faddr (.t 2) 7, (some (28, true)), 16777215⟩,
   ⟨(some 30), .faddr (.t 29) 1, (some (28, true)), 33554431⟩,
   ⟨(some 31), .load true 4 (.t 30), (some (28, true)), 67108863⟩,
   ⟨(some 32), .faddr (.t 3) 7, (some (28, true)), 16777215⟩,
   ⟨(some 33), .faddr (.t 32) 1, (some (28, true)), 150994943⟩,
   ⟨(some 34), .load true 4 (.t 33), (some (28, true)), 419430399⟩,
   ⟨(some 35), .eqs false [0, 0, 0, 0] (.t 31) (.t 34), (some (28, true)), 1073741823⟩,
   ⟨(some 36), .pick (.t 28) (.t 35) (.c (.pv (.bool false))), none, 2147483647⟩,
   ⟨(some 37), .mv (.t 36), none, 4294967295⟩,
   ⟨(some 38), .faddr (.t 2) 34, (some (37, true)), 8589934591⟩,
   ⟨(some 39), .faddr (.t 38) 0, (some (37, true)), 17179869183⟩,
   ⟨(some 40), .load false 1 (.t 39), (some (37, true)), 34359738367⟩,
   ⟨(some 41), .faddr (.t 3) 34, (some (37, true)), 8589934591⟩,
   ⟨(some 42), .faddr (.t 41) 0, (some (37, true)), 77309411327⟩,
   ⟨(some 43), .load false 1 (.t 42), (some (37, true)), 214748364799⟩,
   ⟨(some 44), .bin .eql (.t 40) (.t 43), (some (37, true)), 549755813887⟩,
   ⟨(some 45), .pick (.t 37) (.t 44) (.c (.pv (.bool false))), none, 1099511627775⟩,
   ⟨(some 46), .mv (.t 45), none, 2199023255551⟩,
   ⟨(some 47), .faddr (.t 2) 40, (some (46, true)), 4398046511103⟩,
   ⟨(some 48), .load false 1 (.t 47), (some (46, true)), 8796093022207⟩,
   ⟨(some 49), .faddr (.t 3) 40, (some (46, true)), 4398046511103⟩,
   ⟨(some 50), .load false 1 (.t 49), (some (46, true)), 21990232555519⟩,
   ⟨(some 51), .bin .eql (.t 48) (.t 50), (some (46, true)), 70368744177663⟩,
   ⟨(some 52), .pick (.t 46) (.t 51) (.c (.pv (.bool false))), none, 140737488355327⟩,
   ⟨(some 53), .mv (.t 52), none, 281474976710655⟩,
   ⟨(some 54), .faddr (.t 2) 41, (some (53, true)), 562949953421311⟩,
   ⟨(some 55), .load false 1 (.t 54), (some (53, true)), 1125899906842623⟩,
   ⟨(some 56), .slen (.t 55), (some (53, true)), 2251799813685247⟩,
   ⟨(some 57), .faddr (.t 3) 41, (some (53, true)), 562949953421311⟩,
   ⟨(some 58), .load false 1 (.t 57), (some (53, true)), 5066549580791807⟩,
   ⟨(some 59), .slen (.t 58), (some (53, true)), 14073748835532799⟩,
   ⟨(some 60), .bin .eql (.t 56) (.t 59), (some (53, true)), 36028797018963967⟩,
   ⟨(some 61), .pick (.t 53) (.t 60) (.c (.pv (.bool false))), none, 72057594037927935⟩,
   ⟨(some 62), .mv (.t 61), none, 144115188075855871⟩,
   ⟨(some 63), .faddr (.t 2) 42, (some (62, true)), 288230376151711743⟩,
   ⟨(some 64), .load true 7 (.t 63), (some (62, true)), 576460752303423487⟩,
   ⟨(some 65), .faddr (.t 3) 42, (some (62, true)), 288230376151711743⟩,
   ⟨(some 66), .load true 7 (.t 65), (some (62, true)), 1441151880758558719⟩,
   ⟨(some 67), .eqs false [0, 1, 0, 2, 0, 0, 0] (.t 64) (.t 66), (some (62, true)), 4611686018427387903⟩,
   ⟨(some 68), .pick (.t 62) (.t 67) (.c (.pv (.bool false))), none, 9223372036854775807⟩,
   ⟨(some 69), .mv (.t 68), none, 18446744073709551615⟩,
   ⟨(some 70), .faddr (.t 2) 49, (some (69, true)), 36893488147419103231⟩,
   ⟨(some 71), .load true 6 (.t 70), (some (69, true)), 73786976294838206463⟩,
   ⟨(some 72), .faddr (.t 3) 49, (some (69, true)), 36893488147419103231⟩,
   ⟨(some 73), .load true 6 (.t 72), (some (69, true)), 184467440737095516159⟩,
   ⟨(some 74), .eqs false [0, 0, 0, 0, 0, 0] (.t 71) (.t 73), (some (69, true)), 590295810358705651711⟩,
   ⟨(some 75), .pick (.t 69) (.t 74) (.c (.pv (.bool false))), none, 1180591620717411303423⟩,
   ⟨(some 76), .mv (.t 75), none, 2361183241434822606847⟩,
   ⟨(some 77), .faddr (.t 2) 55, (some (76, true)), 4722366482869645213695⟩,
   ⟨(some 78), .load false 1 (.t 77), (some (76, true)), 9444732965739290427391⟩,
   ⟨(some 79), .faddr (.t 3) 55, (some (76, true)), 4722366482869645213695⟩,
   ⟨(some 80), .load false 1 (.t 79), (some (76, true)), 23611832414348226068479⟩,
   ⟨(some 81), .bin .eql (.t 78) (.t 80), (some (76, true)), 75557863725914323419135⟩,
   ⟨(some 82), .pick (.t 76) (.t 81) (.c (.pv (.bool false))), none, 151115727451828646838271⟩,
   ⟨(some 83), .mv (.t 82), none, 302231454903657293676543⟩,
   ⟨(some 84), .faddr (.t 2) 56, (some (83, true)), 604462909807314587353087⟩,
   ⟨(some 85), .load false 1 (.t 84), (some (83, true)), 1208925819614629174706175⟩,
   ⟨(some 86), .faddr (.t 3) 56, (some (83, true)), 604462909807314587353087⟩,
   ⟨(some 87), .load false 1 (.t 86), (some (83, true)), 3022314549036572936765439⟩,
   ⟨(some 88), .bin .eql (.t 85) (.t 87), (some (83, true)), 9671406556917033397649407⟩,
   ⟨(some 89), .pick (.t 83) (.t 88) (.c (.pv (.bool false))), none, 19342813113834066795298815⟩,
   ⟨(some 4), .mv (.t 89), none, 38685626227668133590597631⟩] false)
 (.ret))⟩
def c86 : RFn := ⟨2, 27, [.cell 4 true 67, .tmp 5],
 .seq (.reg [⟨(some 2), .box 67 (.t 0), none, 0⟩,
   ⟨(some 4), .alloc [.emp 7, .emp 7, .emp 7, .emp 3, .pv (.int .i64 (0)), .pv (.int .i64 (0)), .pv (.int .i64 (0)), .pv (.int .i64 (0)), .pv (.int .i64 (0)), .pv (.int .i64 (0)), .pv (.int .i64 (0)), .emp 7, .pv (.int .i64 (0)), .pv (.int .i64 (0)), .pv (.int .i64 (0)), .pv (.int .i64 (0)), .pv (.int .i64 (0)), .pv (.int .i64 (0)), .pv (.int .i64 (0)), .pv (.int .i64 (0)), .pv (.int .i64 (0)), .pv (.int .i64 (0)), .pv (.int .i64 (0)), .pv (.int .i64 (0)), .pv (.int .i64 (0)), .pv (.int .i64 (0)), .pv (.int .i64 (0)), .pv (.int .i64 (0)), .pv (.int .i64 (0)), .pv (.int .i64 (0)), .pv (.int .i64 (0)), .pv (.int .i64 (0)), .pv (.bool false), .pv (.bool false), .emp 47, .pv (.int .i64 (0)), .pv (.int .i64 (0)), .pv (.int .i64 (0)), .pv (.int .i64 (0)), .pv (.int .i64 (0)), .pv (.int .i64 (0)), .pv (.int .i64 (0)), .pv (.int .i64 (0)), .emp 1, .pv (.int .i64 (0)), .pv (.int .i64 (0)), .emp 2, .pv (.int .i64 (0)), .pv (.bool false), .pv (.int .i64 (0)), .pv (.str []), .pv (.int .i64 (0)), .pv (.int .i64 (0)), .pv (.int .i64 (0)), .pv (.int .i64 (0)), .pv (.int .i64 (0)), .pv (.int .i64 (0)), .pv (.int .i64 (0)), .pv (.int .i64 (0)), .pv (.int .i64 (0)), .pv (.int .i64 (0)), .pv (.int .i64 (0)), .emp 57, .emp 47, .emp 3, .pv (.str []), .pv (.int .i64 (0))], none, 0⟩,
   ⟨(some 5), .mv (.c (.pv (.int .i64 (0)))), none, 0⟩] false)
 (.seq (.seq (.reg [⟨(some 6), .faddr (.t 2) 0, none, 0⟩,
   ⟨(some 7), .load false 1 (.t 6), none, 1⟩,
   ⟨(some 8), .slen (.t 7), none, 3⟩,
   ⟨(some 9), .mv (.t 1), none, 0⟩,
   ⟨(some 10), .slen (.t 9), none, 8⟩,
   ⟨(some 11), .bin .add (.t 8) (.t 10), none, 31⟩,
   ⟨(some 12), .bin .gtr (.t 11) (.c (.pv (.int .i64 (100)))), none, 63⟩] false)
 (.cond (.t 12)
  (.seq (.reg [⟨(some 13), .load true 67 (.t 2), none, 0⟩,
    ⟨none, .store 67 (.t 4) (.t 13), none, 1⟩,
    ⟨(some 5), .mv (.c (.pv (.int .i64 (21)))), none, 3⟩] false)
  (.ret))
  (.skip)))
 (.seq (.reg [⟨(some 14), .faddr (.t 2) 0, none, 0⟩,
   ⟨(some 15), .load false 1 (.t 14), none, 1⟩,
   ⟨(some 16), .faddr (.t 2) 0, none, 0⟩,
   ⟨(some 17), .load false 1 (.t 16), none, 4⟩,
   ⟨(some 18), .slen (.t 17), none, 12⟩,
   ⟨(some 19), .faddr (.t 2) 0, none, 0⟩,
   ⟨(some 20), .load false 1 (.t 19), none, 32⟩,
   ⟨(some 21), .slen (.t 20), none, 96⟩,
   ⟨(some 22), .slice 7 (.t 15) none (some (.t 18)) (some (.t 21)), none, 255⟩,
   ⟨(some 23), .mv (.t 1), none, 0⟩,
   ⟨(some 24), .append 7 64 (.t 22) (.t 23), none, 1023⟩,
   ⟨(some 25), .faddr (.t 2) 0, none, 2047⟩,
   ⟨none, .store 1 (.t 25) (.t 24), none, 4095⟩] false)
 (.seq (.reg [⟨(some 26), .load true 67 (.t 2), none, 0⟩,
   ⟨none, .store 67 (.t 4) (.t 26), none, 1⟩,
   ⟨(some 5), .mv (.c (.pv (.int .i64 (0)))), none, 3⟩] false)
 (.ret))))⟩
def c87 : RFn := ⟨2, 27, [.tmp 4, .tmp 5],
 .seq (.reg [⟨(some 2), .box 67 (.t 0), none, 0⟩,
   ⟨(some 4), .mv (.c (.emp 7)), none, 0⟩,
   ⟨(some 5), .mv (.c (.pv (.int .i64 (0)))), none, 2⟩] false)
 (.seq (.seq (.reg [⟨(some 6), .mv (.t 1), none, 0⟩,
   ⟨(some 7), .bin .lss (.t 6) (.c (.pv (.int .i64 (0)))), none, 1⟩] false)
 (.cond (.t 7)
  (.seq (.reg [⟨(some 4), .mv (.c (.emp 7)), none, 0⟩,
    ⟨(some 5), .mv (.c (.pv (.int .i64 (2)))), none, 1⟩] false)
  (.ret))
  (.skip)))
 (.seq (.seq (.reg [⟨(some 8), .mv (.t 1), none, 0⟩,
   ⟨(some 9), .faddr (.t 2) 0, none, 0⟩,
   ⟨(some 10), .load false 1 (.t 9), none, 2⟩,
   ⟨(some 11), .slen (.t 10), none, 6⟩,
   ⟨(some 12), .bin .gtr (.t 8) (.t 11), none, 15⟩] false)
 (.cond (.t 12)
  (.seq (.reg [⟨(some 4), .mv (.c (.emp 7)), none, 0⟩,
    ⟨(some 5), .mv (.c (.pv (.int .i64 (20)))), none, 1⟩] false)
  (.ret))
  (.skip)))
 (.seq (.reg [⟨(some 13), .faddr (.t 2) 0, none, 0⟩,
   ⟨(some 14), .load false 1 (.t 13), none, 1⟩,
   ⟨(some 15), .faddr (.t 2) 0, none, 0⟩,
   ⟨(some 16), .load false 1 (.t 15), none, 4⟩,
   ⟨(some 17), .slen (.t 16), none, 12⟩,
   ⟨(some 18), .mv (.t 1), none, 0⟩,
   ⟨(some 19), .bin .sub (.t 17) (.t 18), none, 60⟩,
   ⟨(some 20), .faddr (.t 2) 0, none, 0⟩,
   ⟨(some 21), .load false 1 (.t 20), none, 128⟩,
   ⟨(some 22), .slen (.t 21), none, 384⟩,
   ⟨(some 23), .faddr (.t 2) 0, none, 0⟩,
   ⟨(some 24), .load false 1 (.t 23), none, 1024⟩,
   ⟨(some 25), .slen (.t 24), none, 3072⟩,
   ⟨(some 26), .slice 7 (.t 14) (some (.t 19)) (some (.t 22)) (some (.t 25)), none, 8191⟩,
   ⟨(some 4), .mv (.t 26), none, 16383⟩,
   ⟨(some 5), .mv (.c (.pv (.int .i64 (0)))), none, 32767⟩] false)
 (.ret))))⟩
def c89 : RFn := ⟨2, 30, [.cell 4 true 67, .tmp 5],
 .seq (.reg [⟨(some 2), .box 67 (.t 0), none, 0⟩,
   ⟨(some 4), .alloc [.emp 7, .emp 7, .emp 7, .emp 3, .pv (.int .i64 (0)), .pv (.int .i64 (0)), .pv (.int .i64 (0)), .pv (.int .i64 (0)), .pv (.int .i64 (0)), .pv (.int .i64 (0)), .pv (.int .i64 (0)), .emp 7, .pv (.int .i64 (0)), .pv (.int .i64 (0)), .pv (.int .i64 (0)), .pv (.int .i64 (0)), .pv (.int .i64 (0)), .pv (.int .i64 (0)), .pv (.int .i64 (0)), .pv (.int .i64 (0)), .pv (.int .i64 (0)), .pv (.int .i64 (0)), .pv (.int .i64 (0)), .pv (.int .i64 (0)), .pv (.int .i64 (0)), .pv (.int .i64 (0)), .pv (.int .i64 (0)), .pv (.int .i64 (0)), .pv (.int .i64 (0)), .pv (.int .i64 (0)), .pv (.int .i64 (0)), .pv (.int .i64 (0)), .pv (.bool false), .pv (.bool false), .emp 47, .pv (.int .i64 (0)), .pv (.int .i64 (0)), .pv (.int .i64 (0)), .pv (.int .i64 (0)), .pv (.int .i64 (0)), .pv (.int .i64 (0)), .pv (.int .i64 (0)), .pv (.int .i64 (0)), .emp 1, .pv (.int .i64 (0)), .pv (.int .i64 (0)), .emp 2, .pv (.int .i64 (0)), .pv (.bool false), .pv (.int .i64 (0)), .pv (.str []), .pv (.int .i64 (0)), .pv (.int .i64 (0)), .pv (.int .i64 (0)), .pv (.int .i64 (0)), .pv (.int .i64 (0)), .pv (.int .i64 (0)), .pv (.int .i64 (0)), .pv (.int .i64 (0)), .pv (.int .i64 (0)), .pv (.int .i64 (0)), .pv (.int .i64 (0)), .emp 57, .emp 47, .emp 3, .pv (.str []), .pv (.int .i64 (0))], none, 0⟩,
   ⟨(some 5), .mv (.c (.pv (.int .i64 (0)))), none, 0⟩] false)
 (.seq (.seq (.reg [⟨(some 6), .mv (.t 1), none, 0⟩,
   ⟨(some 7), .bin .lss (.t 6) (.c (.pv (.int .i64 (0)))), none, 1⟩] false)
 (.cond (.t 7)
  (.seq (.reg [⟨(some 8), .load true 67 (.t 2), none, 0⟩,
    ⟨none, .store 67 (.t 4) (.t 8), none, 1⟩,
    ⟨(some 5), .mv (.c (.pv (.int .i64 (2)))), none, 3⟩] false)
  (.ret))
  (.skip)))
 (.seq (.seq (.reg [⟨(some 9), .mv (.t 1), none, 0⟩,
   ⟨(some 10), .faddr (.t 2) 0, none, 0⟩,
   ⟨(some 11), .load false 1 (.t 10), none, 2⟩,
   ⟨(some 12), .slen (.t 11), none, 6⟩,
   ⟨(some 13), .bin .gtr (.t 9) (.t 12), none, 15⟩] false)
 (.cond (.t 13)
  (.seq (.reg [⟨(some 14), .load true 67 (.t 2), none, 0⟩,
    ⟨none, .store 67 (.t 4) (.t 14), none, 1⟩,
    ⟨(some 5), .mv (.c (.pv (.int .i64 (20)))), none, 3⟩] false)
  (.ret))
  (.skip)))
 (.seq (.reg [⟨(some 15), .faddr (.t 2) 0, none, 0⟩,
   ⟨(some 16), .load false 1 (.t 15), none, 1⟩,
   ⟨(some 17), .faddr (.t 2) 0, none, 0⟩,
   ⟨(some 18), .load false 1 (.t 17), none, 4⟩,
   ⟨(some 19), .slen (.t 18), none, 12⟩,
   ⟨(some 20), .mv (.t 1), none, 0⟩,
   ⟨(some 21), .bin .sub (.t 19) (.t 20), none, 60⟩,
   ⟨(some 22), .faddr (.t 2) 0, none, 0⟩,
   ⟨(some 23), .load false 1 (.t 22), none, 128⟩,
   ⟨(some 24), .slen (.t 23), none, 384⟩,
   ⟨(some 25), .mv (.t 1), none, 0⟩,
   ⟨(some 26), .bin .sub (.t 24) (.t 25), none, 1920⟩,
   ⟨(some 27), .slice 7 (.t 16) none (some (.t 21)) (some (.t 26)), none, 4095⟩,
   ⟨(some 28), .faddr (.t 2) 0, none, 8191⟩,
   ⟨none, .store 1 (.t 28) (.t 27), none, 16383⟩] false)
 (.seq (.reg [⟨(some 29), .load true 67 (.t 2), none, 0⟩,
   ⟨none, .store 67 (.t 4) (.t 29), none, 1⟩,
   ⟨(some 5), .mv (.c (.pv (.int .i64 (0)))), none, 3⟩] false)
 (.ret)))))⟩
def c91 : RFn := ⟨1, 5, [.cell 2 true 7],
 .seq (.reg [⟨(some 2), .alloc [.pv (.int .i64 (0)), .pv (.str []), .emp 7, .emp 7, .emp 7, .pv (.int .i64 (0)), .pv (.int .i64 (0))], none, 0⟩] false)
 (.seq (.reg [⟨(some 3), .mv (.t 0), none, 0⟩,
   ⟨(some 4), .build [.pv (.int .i64 (0)), .pv (.str []), .emp 7, .emp 7, .emp 7, .pv (.int .i64 (0)), .pv (.int .i64 (0))] [(0, 1, .c (.pv (.int .i64 (3)))), (5, 1, .t 3)], none, 1⟩,
   ⟨none, .store 7 (.t 2) (.t 4), none, 3⟩] false)
 (.ret))⟩
def c92 : RFn := ⟨1, 5, [.cell 2 true 7],
 .seq (.reg [⟨(some 2), .alloc [.pv (.int .i64 (0)), .pv (.bool false), .pv (.int .i64 (0)), .pv (.str []), .pv (.int .i64 (0)), .pv (.int .i64 (0)), .pv (.int .i64 (0))], none, 0⟩] false)
 (.seq (.reg [⟨(some 3), .mv (.t 0), none, 0⟩,
   ⟨(some 4), .build [.pv (.int .i64 (0)), .pv (.bool false), .pv (.int .i64 (0)), .pv (.str []), .pv (.int .i64 (0)), .pv (.int .i64 (0)), .pv (.int .i64 (0))] [(0, 1, .c (.pv (.int .i64 (5)))), (3, 1, .t 3)], none, 1⟩,
   ⟨none, .store 7 (.t 2) (.t 4), none, 3⟩] false)
 (.ret))⟩
def c93 : RFn := ⟨0, 2, [.tmp 0],
 .seq (.reg [⟨(some 0), .mv (.c (.emp 1)), none, 0⟩] false)
 (.seq (.reg [⟨(some 1), .bsl 1 5 [.pv (.str [])] [(0, .c (.pv (.str [70, 111, 110, 116]))), (1, .c (.pv (.str [80, 97, 116, 116, 101, 114, 110]))), (2, .c (.pv (.str [69, 110, 99, 111, 100, 105, 110, 103]))), (3, .c (.pv (.str [70, 111, 114, 109]))), (4, .c (.pv (.str [71, 101, 110, 101, 114, 105, 99])))], none, 0⟩,
   ⟨(some 0), .mv (.t 1), none, 1⟩] false)
 (.ret))⟩
def c94 : RFn := ⟨2, 26, [.tmp 4],
 .seq (.reg [⟨(some 3), .box 7 (.t 1), none, 0⟩,
   ⟨(some 4), .mv (.c (.pv (.bool false))), none, 0⟩] false)
 (.scope
  (.seq (.reg [⟨(some 5), .mv (.c (.pv (.bool true))), none, 0⟩] false)
  (.seq (.skip)
  (.seq (.seq (.reg [⟨(some 8), .build [.pv (.str []), .pv .nilFunc] [(0, 1, .c (.pv (.str [70, 111, 110, 116]))), (1, 1, .f 113)], none, 0⟩,
    ⟨(some 9), .build [.pv (.str []), .pv .nilFunc] [(0, 1, .c (.pv (.str [80, 97, 116, 116, 101, 114, 110]))), (1, 1, .f 113)], none, 0⟩,
    ⟨(some 10), .build [.pv (.str []), .pv .nilFunc] [(0, 1, .c (.pv (.str [70, 111, 114, 109]))), (1, 1, .f 113)], none, 0⟩,
    ⟨(some 11), .build [.pv (.str []), .pv .nilFunc] [(0, 1, .c (.pv (.str [69, 110, 99, 111, 100, 105, 110, 103]))), (1, 1, .f 114)], none, 0⟩,
    ⟨(some 12), .build [.pv (.str []), .pv .nilFunc, .pv (.str []), .pv .nilFunc, .pv (.str []), .pv .nilFunc, .pv (.str []), .pv .nilFunc] [(0, 2, .t 8), (2, 2, .t 9), (4, 2, .t 10), (6, 2, .t 11)], none, 15⟩,
    ⟨(some 13), .mv (.c (.pv (.int .i64 (0)))), none, 0⟩] false)
  (.block 0
   (.loop [0, 3, 5, 12, 13]
    (.seq (.reg [⟨(some 14), .bin .lss (.t 13) (.c (.pv (.int .i64 (4)))), none, 0⟩] false)
    (.seq (.cond (.t 14)
     (.skip)
     (.exit 0))
    (.seq (.block 1
     (.seq (.reg [⟨(some 15), .index true 4 2 (.t 12) (.t 13), none, 0⟩,
       ⟨(some 7), .alloc [.pv (.str []), .pv .nilFunc], none, 0⟩,
       ⟨none, .store 2 (.t 7) (.t 15), none, 3⟩] false)
     (.seq (.reg [⟨(some 16), .faddr (.t 7) 0, none, 0⟩,
       ⟨(some 17), .load false 1 (.t 16), none, 1⟩,
       ⟨(some 18), .mv (.t 0), none, 0⟩,
       ⟨(some 19), .bin .eql (.t 17) (.t 18), none, 7⟩] false)
     (.cond (.t 19)
      (.seq (.reg [⟨(some 20), .faddr (.t 7) 1, none, 0⟩,
        ⟨(some 21), .load false 1 (.t 20), none, 1⟩,
        ⟨(some 22), .load true 7 (.t 3), none, 0⟩,
        ⟨(some 23), .call (.t 21) [.t 22], none, 7⟩,
        ⟨(some 5), .mv (.t 23), none, 15⟩] false)
      (.exit 0))
      (.skip)))))
    (.reg [⟨(some 24), .bin .add (.t 13) (.c (.pv (.int .i64 (1)))), none, 0⟩,
      ⟨(some 13), .mv (.t 24), none, 1⟩] false)))))))
  (.seq (.reg [⟨(some 25), .mv (.t 5), none, 0⟩,
    ⟨(some 4), .mv (.t 25), none, 1⟩] false)
  (.ret))))))⟩
def c95 : RFn := ⟨4, 40, [.cell 8 true 67, .tmp 9],
 .seq (.reg [⟨(some 4), .box 67 (.t 0), none, 0⟩,
   ⟨(some 5), .box 29 (.t 1), none, 0⟩,
   ⟨(some 8), .alloc [.emp 7, .emp 7, .emp 7, .emp 3, .pv (.int .i64 (0)), .pv (.int .i64 (0)), .pv (.int .i64 (0)), .pv (.int .i64 (0)), .pv (.int .i64 (0)), .pv (.int .i64 (0)), .pv (.int .i64 (0)), .emp 7, .pv (.int .i64 (0)), .pv (.int .i64 (0)), .pv (.int .i64 (0)), .pv (.int .i64 (0)), .pv (.int .i64 (0)), .pv (.int .i64 (0)), .pv (.int .i64 (0)), .pv (.int .i64 (0)), .pv (.int .i64 (0)), .pv (.int .i64 (0)), .pv (.int .i64 (0)), .pv (.int .i64 (0)), .pv (.int .i64 (0)), .pv (.int .i64 (0)), .pv (.int .i64 (0)), .pv (.int .i64 (0)), .pv (.int .i64 (0)), .pv (.int .i64 (0)), .pv (.int .i64 (0)), .pv (.int .i64 (0)), .pv (.bool false), .pv (.bool false), .emp 47, .pv (.int .i64 (0)), .pv (.int .i64 (0)), .pv (.int .i64 (0)), .pv (.int .i64 (0)), .pv (.int .i64 (0)), .pv (.int .i64 (0)), .pv (.int .i64 (0)), .pv (.int .i64 (0)), .emp 1, .pv (.int .i64 (0)), .pv (.int .i64 (0)), .emp 2, .pv (.int .i64 (0)), .pv (.bool false), .pv (.int .i64 (0)), .pv (.str []), .pv (.int .i64 (0)), .pv (.int .i64 (0)), .pv (.int .i64 (0)), .pv (.int .i64 (0)), .pv (.int .i64 (0)), .pv (.int .i64 (0)), .pv (.int .i64 (0)), .pv (.int .i64 (0)), .pv (.int .i64 (0)), .pv (.int .i64 (0)), .pv (.int .i64 (0)), .emp 57, .emp 47, .emp 3, .pv (.str []), .pv (.int .i64 (0))], none, 0⟩,
   ⟨(some 9), .mv (.c (.pv (.int .i64 (0)))), none, 0⟩] false)
 (.seq (.reg [⟨(some 14), .faddr (.t 4) 0, none, 0⟩,
   ⟨(some 15), .load true 67 (.t 14), none, 1⟩,
   ⟨(some 16), .faddr (.t 5) 28, none, 0⟩,
   ⟨(some 17), .load false 1 (.t 16), none, 4⟩,
   ⟨(some 18), .call (.f 89) [.t 15, .t 17], none, 15⟩,
   ⟨(some 13), .mv (.t 18), none, 31⟩,
   ⟨(some 19), .extract (.t 13) 0, none, 63⟩,
   ⟨(some 20), .extract (.t 13) 1, none, 63⟩,
   ⟨(some 10), .alloc [.emp 7, .emp 7, .emp 7, .emp 3, .pv (.int .i64 (0)), .pv (.int .i64 (0)), .pv (.int .i64 (0)), .pv (.int .i64 (0)), .pv (.int .i64 (0)), .pv (.int .i64 (0)), .pv (.int .i64 (0)), .emp 7, .pv (.int .i64 (0)), .pv (.int .i64 (0)), .pv (.int .i64 (0)), .pv (.int .i64 (0)), .pv (.int .i64 (0)), .pv (.int .i64 (0)), .pv (.int .i64 (0)), .pv (.int .i64 (0)), .pv (.int .i64 (0)), .pv (.int .i64 (0)), .pv (.int .i64 (0)), .pv (.int .i64 (0)), .pv (.int .i64 (0)), .pv (.int .i64 (0)), .pv (.int .i64 (0)), .pv (.int .i64 (0)), .pv (.int .i64 (0)), .pv (.int .i64 (0)), .pv (.int .i64 (0)), .pv (.int .i64 (0)), .pv (.bool false), .pv (.bool false), .emp 47, .pv (.int .i64 (0)), .pv (.int .i64 (0)), .pv (.int .i64 (0)), .pv (.int .i64 (0)), .pv (.int .i64 (0)), .pv (.int .i64 (0)), .pv (.int .i64 (0)), .pv (.int .i64 (0)), .emp 1, .pv (.int .i64 (0)), .pv (.int .i64 (0)), .emp 2, .pv (.int .i64 (0)), .pv (.bool false), .pv (.int .i64 (0)), .pv (.str []), .pv (.int .i64 (0)), .pv (.int .i64 (0)), .pv (.int .i64 (0)), .pv (.int .i64 (0)), .pv (.int .i64 (0)), .pv (.int .i64 (0)), .pv (.int .i64 (0)), .pv (.int .i64 (0)), .pv (.int .i64 (0)), .pv (.int .i64 (0)), .pv (.int .i64 (0)), .emp 57, .emp 47, .emp 3, .pv (.str []), .pv (.int .i64 (0))], none, 0⟩,
   ⟨none, .store 67 (.t 10) (.t 19), none, 383⟩,
   ⟨(some 11), .mv (.t 20), none, 1023⟩] false)
 (.seq (.seq (.reg [⟨(some 21), .mv (.t 11), none, 0⟩,
   ⟨(some 22), .bin .neq (.t 21) (.c (.pv (.int .i64 (0)))), none, 1⟩] false)
 (.cond (.t 22)
  (.seq (.reg [⟨(some 23), .faddr (.t 4) 0, none, 0⟩,
    ⟨(some 24), .load true 67 (.t 23), none, 1⟩,
    ⟨(some 25), .mv (.t 11), none, 0⟩,
    ⟨none, .store 67 (.t 8) (.t 24), none, 3⟩,
    ⟨(some 9), .mv (.t 25), none, 15⟩] false)
  (.ret))
  (.skip)))
 (.seq (.reg [⟨(some 27), .load true 67 (.t 10), none, 0⟩,
   ⟨(some 28), .mv (.t 3), none, 0⟩,
   ⟨(some 29), .call (.f 86) [.t 27, .t 28], none, 3⟩,
   ⟨(some 26), .mv (.t 29), none, 7⟩,
   ⟨(some 30), .extract (.t 26) 0, none, 15⟩,
   ⟨(some 31), .extract (.t 26) 1, none, 15⟩,
   ⟨(some 12), .alloc [.emp 7, .emp 7, .emp 7, .emp 3, .pv (.int .i64 (0)), .pv (.int .i64 (0)), .pv (.int .i64 (0)), .pv (.int .i64 (0)), .pv (.int .i64 (0)), .pv (.int .i64 (0)), .pv (.int .i64 (0)), .emp 7, .pv (.int .i64 (0)), .pv (.int .i64 (0)), .pv (.int .i64 (0)), .pv (.int .i64 (0)), .pv (.int .i64 (0)), .pv (.int .i64 (0)), .pv (.int .i64 (0)), .pv (.int .i64 (0)), .pv (.int .i64 (0)), .pv (.int .i64 (0)), .pv (.int .i64 (0)), .pv (.int .i64 (0)), .pv (.int .i64 (0)), .pv (.int .i64 (0)), .pv (.int .i64 (0)), .pv (.int .i64 (0)), .pv (.int .i64 (0)), .pv (.int .i64 (0)), .pv (.int .i64 (0)), .pv (.int .i64 (0)), .pv (.bool false), .pv (.bool false), .emp 47, .pv (.int .i64 (0)), .pv (.int .i64 (0)), .pv (.int .i64 (0)), .pv (.int .i64 (0)), .pv (.int .i64 (0)), .pv (.int .i64 (0)), .pv (.int .i64 (0)), .pv (.int .i64 (0)), .emp 1, .pv (.int .i64 (0)), .pv (.int .i64 (0)), .emp 2, .pv (.int .i64 (0)), .pv (.bool false), .pv (.int .i64 (0)), .pv (.str []), .pv (.int .i64 (0)), .pv (.int .i64 (0)), .pv (.int .i64 (0)), .pv (.int .i64 (0)), .pv (.int .i64 (0)), .pv (.int .i64 (0)), .pv (.int .i64 (0)), .pv (.int .i64 (0)), .pv (.int .i64 (0)), .pv (.int .i64 (0)), .pv (.int .i64 (0)), .emp 57, .emp 47, .emp 3, .pv (.str []), .pv (.int .i64 (0))], none, 0⟩,
   ⟨none, .store 67 (.t 12) (.t 30), none, 95⟩,
   ⟨(some 11), .mv (.t 31), none, 255⟩] false)
 (.seq (.seq (.reg [⟨(some 32), .mv (.t 11), none, 0⟩,
   ⟨(some 33), .bin .neq (.t 32) (.c (.pv (.int .i64 (0)))), none, 1⟩] false)
 (.cond (.t 33)
  (.seq (.reg [⟨(some 34), .faddr (.t 4) 0, none, 0⟩,
    ⟨(some 35), .load true 67 (.t 34), none, 1⟩,
    ⟨(some 36), .mv (.t 11), none, 0⟩,
    ⟨none, .store 67 (.t 8) (.t 35), none, 3⟩,
    ⟨(some 9), .mv (.t 36), none, 15⟩] false)
  (.ret))
  (.skip)))
 (.seq (.reg [⟨(some 37), .mv (.t 2), none, 0⟩,
   ⟨(some 38), .faddr (.t 12) 2, none, 1⟩,
   ⟨none, .store 1 (.t 38) (.t 37), none, 3⟩] false)
 (.seq (.reg [⟨(some 39), .load true 67 (.t 12), none, 0⟩,
   ⟨none, .store 67 (.t 8) (.t 39), none, 1⟩,
   ⟨(some 9), .mv (.c (.pv (.int .i64 (0)))), none, 3⟩] false)
 (.ret)))))))⟩
def c96 : RFn := ⟨3, 57, [.tmp 6, .tmp 7],
 .seq (.reg [⟨(some 4), .box 7 (.t 1), none, 0⟩,
   ⟨(some 5), .box 7 (.t 2), none, 0⟩,
   ⟨(some 6), .mv (.c (.emp 7)), none, 0⟩,
   ⟨(some 7), .mv (.c (.pv (.int .i64 (0)))), none, 4⟩] false)
 (.seq (.reg [⟨(some 13), .mv (.t 0), none, 0⟩,
   ⟨(some 14), .load true 7 (.t 4), none, 0⟩,
   ⟨(some 15), .bsl 1 1 [.pv (.int .i64 (0))] [(0, .c (.pv (.int .i64 (9))))], none, 0⟩,
   ⟨(some 16), .call (.f 67) [.t 13, .t 14, .t 15], none, 7⟩,
   ⟨(some 12), .mv (.t 16), none, 15⟩,
   ⟨(some 17), .extract (.t 12) 0, none, 31⟩,
   ⟨(some 18), .extract (.t 12) 1, none, 31⟩,
   ⟨(some 8), .alloc [.emp 7, .pv (.int .i64 (0)), .pv (.bool false), .pv (.int .i64 (0)), .pv (.str []), .pv (.int .i64 (0)), .pv (.int .i64 (0)), .pv (.int .i64 (0))], none, 0⟩,
   ⟨none, .store 8 (.t 8) (.t 17), none, 191⟩,
   ⟨(some 9), .mv (.t 18), none, 511⟩] false)
 (.seq (.seq (.reg [⟨(some 19), .mv (.t 9), none, 0⟩,
   ⟨(some 20), .bin .neq (.t 19) (.c (.pv (.int .i64 (0)))), none, 1⟩] false)
 (.cond (.t 20)
  (.seq (.reg [⟨(some 21), .mv (.t 9), none, 0⟩,
    ⟨(some 6), .mv (.c (.emp 7)), none, 0⟩,
    ⟨(some 7), .mv (.t 21), none, 3⟩] false)
  (.ret))
  (.skip)))
 (.seq (.reg [⟨(some 22), .load true 8 (.t 8), none, 0⟩,
   ⟨(some 23), .call (.f 69) [.t 22], none, 1⟩,
   ⟨(some 10), .alloc [.pv (.int .i64 (0)), .pv (.str []), .emp 7, .emp 7, .emp 7, .pv (.int .i64 (0)), .pv (.int .i64 (0))], none, 0⟩,
   ⟨none, .store 7 (.t 10) (.t 23), none, 7⟩] false)
 (.seq (.reg [⟨(some 24), .faddr (.t 10) 3, none, 0⟩,
   ⟨(some 25), .load false 1 (.t 24), none, 1⟩,
   ⟨(some 26), .load true 7 (.t 5), none, 0⟩,
   ⟨(some 27), .call (.f 97) [.t 25, .t 26], none, 7⟩,
   ⟨(some 11), .mv (.t 27), none, 15⟩] false)
 (.seq (.seq (.reg [⟨(some 28), .mv (.t 11), none, 0⟩,
   ⟨(some 29), .bin .lss (.t 28) (.c (.pv (.int .i64 (0)))), none, 1⟩,
   ⟨(some 30), .mv (.t 29), none, 3⟩,
   ⟨(some 31), .mv (.t 11), (some (30, false)), 7⟩,
   ⟨(some 32), .faddr (.t 10) 4, (some (30, false)), 7⟩,
   ⟨(some 33), .load false 1 (.t 32), (some (30, false)), 23⟩,
   ⟨(some 34), .slen (.t 33), (some (30, false)), 55⟩,
   ⟨(some 35), .bin .geq (.t 31) (.t 34), (some (30, false)), 127⟩,
   ⟨(some 36), .pick (.t 30) (.c (.pv (.bool true))) (.t 35), none, 255⟩] false)
 (.cond (.t 36)
  (.seq (.reg [⟨(some 37), .mv (.t 0), none, 0⟩,
    ⟨(some 6), .mv (.t 37), none, 1⟩,
    ⟨(some 7), .mv (.c (.pv (.int .i64 (0)))), none, 3⟩] false)
  (.ret))
  (.skip)))
 (.seq (.reg [⟨(some 38), .faddr (.t 10) 3, none, 0⟩,
   ⟨(some 39), .load false 1 (.t 38), none, 1⟩,
   ⟨(some 40), .call (.f 15) [.t 39], none, 3⟩,
   ⟨(some 41), .mv (.t 11), none, 0⟩,
   ⟨(some 42), .mv (.t 11), none, 0⟩,
   ⟨(some 43), .bin .add (.t 42) (.c (.pv (.int .i64 (1)))), none, 16⟩,
   ⟨(some 44), .call (.f 115) [.t 40, .t 41, .t 43], none, 63⟩,
   ⟨(some 45), .faddr (.t 10) 4, none, 0⟩,
   ⟨(some 46), .load false 1 (.t 45), none, 128⟩,
   ⟨(some 47), .call (.f 15) [.t 46], none, 511⟩,
   ⟨(some 48), .mv (.t 11), none, 0⟩,
   ⟨(some 49), .mv (.t 11), none, 0⟩,
   ⟨(some 50), .bin .add (.t 49) (.c (.pv (.int .i64 (1)))), none, 2048⟩,
   ⟨(some 51), .call (.f 115) [.t 47, .t 48, .t 50], none, 8191⟩,
   ⟨(some 52), .faddr (.t 10) 3, none, 511⟩,
   ⟨none, .store 1 (.t 52) (.t 44), none, 32767⟩,
   ⟨(some 53), .faddr (.t 10) 4, none, 65535⟩,
   ⟨none, .store 1 (.t 53) (.t 51), none, 131071⟩] true)
 (.seq (.reg [⟨(some 54), .load true 8 (.t 8), none, 0⟩,
   ⟨(some 55), .load true 7 (.t 10), none, 0⟩,
   ⟨(some 56), .call (.f 71) [.t 54, .t 55], none, 3⟩,
   ⟨(some 6), .mv (.t 56), none, 7⟩,
   ⟨(some 7), .mv (.c (.pv (.int .i64 (0)))), none, 15⟩] false)
 (.ret))))))))⟩
def c97 : RFn := ⟨2, 19, [.tmp 4],
 .seq (.reg [⟨(some 3), .box 7 (.t 1), none, 0⟩,
   ⟨(some 4), .mv (.c (.pv (.int .i64 (0)))), none, 0⟩] false)
 (.seq (.seq (.reg [⟨(some 6), .mv (.t 0), none, 0⟩,
   ⟨(some 7), .slen (.t 6), none, 1⟩,
   ⟨(some 8), .mv (.c (.pv (.int .i64 (0)))), none, 0⟩] false)
 (.block 0
  (.loop [0, 3, 7, 8]
   (.seq (.reg [⟨(some 9), .bin .lss (.t 8) (.t 7), none, 0⟩] false)
   (.seq (.cond (.t 9)
    (.skip)
    (.exit 0))
   (.seq (.block 1
    (.seq (.reg [⟨(some 10), .mv (.t 8), none, 0⟩,
      ⟨(some 5), .mv (.t 10), none, 1⟩] false)
    (.seq (.reg [⟨(some 11), .load true 7 (.t 3), none, 0⟩,
      ⟨(some 12), .mv (.t 0), none, 0⟩,
      ⟨(some 13), .mv (.t 5), none, 0⟩,
      ⟨(some 14), .iaddr 7 (.t 12) (.t 13), none, 6⟩,
      ⟨(some 15), .load true 7 (.t 14), none, 14⟩,
      ⟨(some 16), .eqs false [0, 1, 0, 2, 0, 0, 0] (.t 11) (.t 15), none, 31⟩] true)
    (.cond (.t 16)
     (.seq (.reg [⟨(some 17), .mv (.t 5), none, 0⟩,
       ⟨(some 4), .mv (.t 17), none, 1⟩] false)
     (.ret))
     (.skip)))))
   (.reg [⟨(some 18), .bin .add (.t 8) (.c (.pv (.int .i64 (1)))), none, 0⟩,
     ⟨(some 8), .mv (.t 18), none, 1⟩] false)))))))
 (.seq (.reg [⟨(some 4), .mv (.c (.pv (.int .i64 (-1)))), none, 0⟩] false)
 (.ret)))⟩
def c100 : RFn := ⟨0, 15, [.cell 0 true 78],
 .seq (.reg [⟨(some 0), .alloc [.pv (.str []), .pv (.int .i64 (0)), .pv (.int .i64 (0)), .pv (.int .i64 (0)), .pv (.int .i64 (0)), .pv (.int .i64 (0)), .pv (.str []), .pv (.int .i64 (0)), .pv (.int .i64 (0)), .pv (.int .i64 (0)), .pv (.int .i64 (0)), .pv (.int .i64 (0)), .pv (.str []), .pv (.int .i64 (0)), .pv (.int .i64 (0)), .pv (.int .i64 (0)), .pv (.int .i64 (0)), .pv (.int .i64 (0)), .pv (.str []), .pv (.int .i64 (0)), .pv (.int .i64 (0)), .pv (.int .i64 (0)), .pv (.int .i64 (0)), .pv (.int .i64 (0)), .pv (.str []), .pv (.int .i64 (0)), .pv (.int .i64 (0)), .pv (.int .i64 (0)), .pv (.int .i64 (0)), .pv (.int .i64 (0)), .pv (.str []), .pv (.int .i64 (0)), .pv (.int .i64 (0)), .pv (.int .i64 (0)), .pv (.int .i64 (0)), .pv (.int .i64 (0)), .pv (.str []), .pv (.int .i64 (0)), .pv (.int .i64 (0)), .pv (.int .i64 (0)), .pv (.int .i64 (0)), .pv (.int .i64 (0)), .pv (.str []), .pv (.int .i64 (0)), .pv (.int .i64 (0)), .pv (.int .i64 (0)), .pv (.int .i64 (0)), .pv (.int .i64 (0)), .pv (.str []), .pv (.int .i64 (0)), .pv (.int .i64 (0)), .pv (.int .i64 (0)), .pv (.int .i64 (0)), .pv (.int .i64 (0)), .pv (.str []), .pv (.int .i64 (0)), .pv (.int .i64 (0)), .pv (.int .i64 (0)), .pv (.int .i64 (0)), .pv (.int .i64 (0)), .pv (.str []), .pv (.int .i64 (0)), .pv (.int .i64 (0)), .pv (.int .i64 (0)), .pv (.int .i64 (0)), .pv (.int .i64 (0)), .pv (.str []), .pv (.int .i64 (0)), .pv (.int .i64 (0)), .pv (.int .i64 (0)), .pv (.int .i64 (0)), .pv (.int .i64 (0)), .pv (.str []), .pv (.int .i64 (0)), .pv (.int .i64 (0)), .pv (.int .i64 (0)), .pv (.int .i64 (0)), .pv (.int .i64 (0))], none, 0⟩] false)
 (.seq (.reg [⟨(some 1), .build [.pv (.str []), .pv (.int .i64 (0)), .pv (.int .i64 (0)), .pv (.int .i64 (0)), .pv (.int .i64 (0)), .pv (.int .i64 (0))] [(0, 1, .c (.pv (.str [110, 117, 108, 108, 116, 121, 112, 101])))], none, 0⟩,
   ⟨(some 2), .build [.pv (.str []), .pv (.int .i64 (0)), .pv (.int .i64 (0)), .pv (.int .i64 (0)), .pv (.int .i64 (0)), .pv (.int .i64 (0))] [(0, 1, .c (.pv (.str [109, 97, 114, 107, 116, 121, 112, 101])))], none, 0⟩,
   ⟨(some 3), .build [.pv (.str []), .pv (.int .i64 (0)), .pv (.int .i64 (0)), .pv (.int .i64 (0)), .pv (.int .i64 (0)), .pv (.int .i64 (0))] [(0, 1, .c (.pv (.str [98, 111, 111, 108, 101, 97, 110, 116, 121, 112, 101]))), (2, 1, .c (.pv (.int .i64 (1))))], none, 0⟩,
   ⟨(some 4), .build [.pv (.str []), .pv (.int .i64 (0)), .pv (.int .i64 (0)), .pv (.int .i64 (0)), .pv (.int .i64 (0)), .pv (.int .i64 (0))] [(0, 1, .c (.pv (.str [105, 110, 116, 101, 103, 101, 114, 116, 121, 112, 101]))), (1, 1, .c (.pv (.int .i64 (-2147483648)))), (2, 1, .c (.pv (.int .i64 (2147483647))))], none, 0⟩,
   ⟨(some 5), .build [.pv (.str []), .pv (.int .i64 (0)), .pv (.int .i64 (0)), .pv (.int .i64 (0)), .pv (.int .i64 (0)), .pv (.int .i64 (0))] [(0, 1, .c (.pv (.str [114, 101, 97, 108, 116, 121, 112, 101]))), (1, 1, .c (.pv (.int .i64 (-2147483648)))), (2, 1, .c (.pv (.int .i64 (2147483648))))], none, 0⟩,
   ⟨(some 6), .build [.pv (.str []), .pv (.int .i64 (0)), .pv (.int .i64 (0)), .pv (.int .i64 (0)), .pv (.int .i64 (0)), .pv (.int .i64 (0))] [(0, 1, .c (.pv (.str [110, 97, 109, 101, 116, 121, 112, 101]))), (4, 1, .c (.pv (.int .i64 (100))))], none, 0⟩,
   ⟨(some 7), .build [.pv (.str []), .pv (.int .i64 (0)), .pv (.int .i64 (0)), .pv (.int .i64 (0)), .pv (.int .i64 (0)), .pv (.int .i64 (0))] [(0, 1, .c (.pv (.str [115, 116, 114, 105, 110, 103, 116, 121, 112, 101]))), (5, 1, .c (.pv (.int .i64 (1))))], none, 0⟩,
   ⟨(some 8), .build [.pv (.str []), .pv (.int .i64 (0)), .pv (.int .i64 (0)), .pv (.int .i64 (0)), .pv (.int .i64 (0)), .pv (.int .i64 (0))] [(0, 1, .c (.pv (.str [97, 114, 114, 97, 121, 116, 121, 112, 101]))), (5, 1, .c (.pv (.int .i64 (2))))], none, 0⟩,
   ⟨(some 9), .build [.pv (.str []), .pv (.int .i64 (0)), .pv (.int .i64 (0)), .pv (.int .i64 (0)), .pv (.int .i64 (0)), .pv (.int .i64 (0))] [(0, 1, .c (.pv (.str [112, 97, 99, 107, 101, 100, 97, 114, 114, 97, 121, 116, 121, 112, 101]))), (5, 1, .c (.pv (.int .i64 (2))))], none, 0⟩,
   ⟨(some 10), .build [.pv (.str []), .pv (.int .i64 (0)), .pv (.int .i64 (0)), .pv (.int .i64 (0)), .pv (.int .i64 (0)), .pv (.int .i64 (0))] [(0, 1, .c (.pv (.str [100, 105, 99, 116, 116, 121, 112, 101]))), (5, 1, .c (.pv (.int .i64 (3))))], none, 0⟩,
   ⟨(some 11), .build [.pv (.str []), .pv (.int .i64 (0)), .pv (.int .i64 (0)), .pv (.int .i64 (0)), .pv (.int .i64 (0)), .pv (.int .i64 (0))] [(0, 1, .c (.pv (.str [111, 112, 101, 114, 97, 116, 111, 114, 116, 121, 112, 101]))), (3, 1, .c (.pv (.int .i64 (1)))), (4, 1, .c (.pv (.int .i64 (100))))], none, 0⟩,
   ⟨(some 12), .build [.pv (.str []), .pv (.int .i64 (0)), .pv (.int .i64 (0)), .pv (.int .i64 (0)), .pv (.int .i64 (0)), .pv (.int .i64 (0))] [(0, 1, .c (.pv (.str [102, 105, 108, 101, 116, 121, 112, 101]))), (5, 1, .c (.pv (.int .i64 (3))))], none, 0⟩,
   ⟨(some 13), .build [.pv (.str []), .pv (.int .i64 (0)), .pv (.int .i64 (0)), .pv (.int .i64 (0)), .pv (.int .i64 (0)), .pv (.int .i64 (0))] [(0, 1, .c (.pv (.str [115, 97, 118, 101, 116, 121, 112, 101]))), (1, 1, .c (.pv (.int .i64 (1)))), (2, 1, .c (.pv (.int .i64 (9223372036854775807))))], none, 0⟩,
   ⟨(some 14), .build [.pv (.str []), .pv (.int .i64 (0)), .pv (.int .i64 (0)), .pv (.int .i64 (0)), .pv (.int .i64 (0)), .pv (.int .i64 (0)), .pv (.str []), .pv (.int .i64 (0)), .pv (.int .i64 (0)), .pv (.int .i64 (0)), .pv (.int .i64 (0)), .pv (.int .i64 (0)), .pv (.str []), .pv (.int .i64 (0)), .pv (.int .i64 (0)), .pv (.int .i64 (0)), .pv (.int .i64 (0)), .pv (.int .i64 (0)), .pv (.str []), .pv (.int .i64 (0)), .pv (.int .i64 (0)), .pv (.int .i64 (0)), .pv (.int .i64 (0)), .pv (.int .i64 (0)), .pv (.str []), .pv (.int .i64 (0)), .pv (.int .i64 (0)), .pv (.int .i64 (0)), .pv (.int .i64 (0)), .pv (.int .i64 (0)), .pv (.str []), .pv (.int .i64 (0)), .pv (.int .i64 (0)), .pv (.int .i64 (0)), .pv (.int .i64 (0)), .pv (.int .i64 (0)), .pv (.str []), .pv (.int .i64 (0)), .pv (.int .i64 (0)), .pv (.int .i64 (0)), .pv (.int .i64 (0)), .pv (.int .i64 (0)), .pv (.str []), .pv (.int .i64 (0)), .pv (.int .i64 (0)), .pv (.int .i64 (0)), .pv (.int .i64 (0)), .pv (.int .i64 (0)), .pv (.str []), .pv (.int .i64 (0)), .pv (.int .i64 (0)), .pv (.int .i64 (0)), .pv (.int .i64 (0)), .pv (.int .i64 (0)), .pv (.str []), .pv (.int .i64 (0)), .pv (.int .i64 (0)), .pv (.int .i64 (0)), .pv (.int .i64 (0)), .pv (.int .i64 (0)), .pv (.str []), .pv (.int .i64 (0)), .pv (.int .i64 (0)), .pv (.int .i64 (0)), .pv (.int .i64 (0)), .pv (.int .i64 (0)), .pv (.str []), .pv (.int .i64 (0)), .pv (.int .i64 (0)), .pv (.int .i64 (0)), .pv (.int .i64 (0)), .pv (.int .i64 (0)), .pv (.str []), .pv (.int .i64 (0)), .pv (.int .i64 (0)), .pv (.int .i64 (0)), .pv (.int .i64 (0)), .pv (.int .i64 (0))] [(0, 6, .t 1), (6, 6, .t 2), (12, 6, .t 3), (18, 6, .t 4), (24, 6, .t 5), (30, 6, .t 6), (36, 6, .t 7), (42, 6, .t 8), (48, 6, .t 9), (54, 6, .t 10), (60, 6, .t 11), (66, 6, .t 12), (72, 6, .t 13)], none, 8191⟩,
   ⟨none, .store 78 (.t 0) (.t 14), none, 16383⟩] false)
 (.ret))⟩
def c101 : RFn := ⟨2, 17, [.tmp 4],
 .seq (.reg [⟨(some 2), .box 6 (.t 0), none, 0⟩,
   ⟨(some 3), .box 7 (.t 1), none, 0⟩,
   ⟨(some 4), .mv (.c (.pv (.bool false))), none, 0⟩] false)
 (.seq (.reg [⟨(some 5), .faddr (.t 3) 2, none, 0⟩,
   ⟨(some 6), .load false 1 (.t 5), none, 1⟩,
   ⟨(some 7), .faddr (.t 2) 1, none, 0⟩,
   ⟨(some 8), .load false 1 (.t 7), none, 4⟩,
   ⟨(some 9), .bin .geq (.t 6) (.t 8), none, 15⟩,
   ⟨(some 10), .mv (.t 9), none, 31⟩,
   ⟨(some 11), .faddr (.t 3) 2, (some (10, true)), 63⟩,
   ⟨(some 12), .load false 1 (.t 11), (some (10, true)), 127⟩,
   ⟨(some 13), .faddr (.t 2) 2, (some (10, true)), 63⟩,
   ⟨(some 14), .load false 1 (.t 13), (some (10, true)), 319⟩,
   ⟨(some 15), .bin .leq (.t 12) (.t 14), (some (10, true)), 1023⟩,
   ⟨(some 16), .pick (.t 10) (.t 15) (.c (.pv (.bool false))), none, 2047⟩,
   ⟨(some 4), .mv (.t 16), none, 4095⟩] false)
 (.ret))⟩
def c102 : RFn := ⟨2, 19, [.tmp 4],
 .seq (.reg [⟨(some 2), .box 6 (.t 0), none, 0⟩,
   ⟨(some 3), .box 7 (.t 1), none, 0⟩,
   ⟨(some 4), .mv (.c (.pv (.bool false))), none, 0⟩] false)
 (.seq (.reg [⟨(some 5), .faddr (.t 3) 3, none, 0⟩,
   ⟨(some 6), .load false 1 (.t 5), none, 1⟩,
   ⟨(some 7), .strlen (.t 6), none, 3⟩,
   ⟨(some 8), .faddr (.t 2) 3, none, 0⟩,
   ⟨(some 9), .load false 1 (.t 8), none, 8⟩,
   ⟨(some 10), .bin .geq (.t 7) (.t 9), none, 31⟩,
   ⟨(some 11), .mv (.t 10), none, 63⟩,
   ⟨(some 12), .faddr (.t 3) 3, (some (11, true)), 127⟩,
   ⟨(some 13), .load false 1 (.t 12), (some (11, true)), 255⟩,
   ⟨(some 14), .strlen (.t 13), (some (11, true)), 511⟩,
   ⟨(some 15), .faddr (.t 2) 4, (some (11, true)), 127⟩,
   ⟨(some 16), .load false 1 (.t 15), (some (11, true)), 1151⟩,
   ⟨(some 17), .bin .leq (.t 14) (.t 16), (some (11, true)), 4095⟩,
   ⟨(some 18), .pick (.t 11) (.t 17) (.c (.pv (.bool false))), none, 8191⟩,
   ⟨(some 4), .mv (.t 18), none, 16383⟩] false)
 (.ret))⟩
def c103 : RFn := ⟨2, 57, [.tmp 4],
 .seq (.reg [⟨(some 2), .box 6 (.t 0), none, 0⟩,
   ⟨(some 3), .box 7 (.t 1), none, 0⟩,
   ⟨(some 4), .mv (.c (.pv (.bool false))), none, 0⟩] false)
 (.seq (.seq (.reg [⟨(some 6), .faddr (.t 2) 5, none, 0⟩,
   ⟨(some 7), .load false 1 (.t 6), none, 1⟩,
   ⟨(some 8), .bin .eql (.t 7) (.c (.pv (.int .i64 (0)))), none, 3⟩] false)
 (.cond (.t 8)
  (.seq (.reg [⟨(some 9), .faddr (.t 3) 4, none, 0⟩,
    ⟨(some 10), .load false 1 (.t 9), none, 1⟩,
    ⟨(some 11), .bin .eql (.t 10) (.c (.pv (.int .i64 (0)))), none, 3⟩,
    ⟨(some 12), .mv (.t 11), none, 7⟩,
    ⟨(some 13), .faddr (.t 3) 5, (some (12, true)), 15⟩,
    ⟨(some 14), .load false 1 (.t 13), (some (12, true)), 31⟩,
    ⟨(some 15), .bin .eql (.t 14) (.c (.pv (.int .i64 (0)))), (some (12, true)), 63⟩,
    ⟨(some 16), .pick (.t 12) (.t 15) (.c (.pv (.bool false))), none, 127⟩,
    ⟨(some 17), .mv (.t 16), none, 255⟩,
    ⟨(some 18), .faddr (.t 3) 6, (some (17, true)), 511⟩,
    ⟨(some 19), .load false 1 (.t 18), (some (17, true)), 1023⟩,
    ⟨(some 20), .bin .eql (.t 19) (.c (.pv (.int .i64 (0)))), (some (17, true)), 2047⟩,
    ⟨(some 21), .pick (.t 17) (.t 20) (.c (.pv (.bool false))), none, 4095⟩,
    ⟨(some 4), .mv (.t 21), none, 8191⟩] false)
  (.ret))
  (.skip)))
 (.seq (.reg [⟨(some 22), .load true 6 (.t 2), none, 0⟩,
   ⟨(some 23), .call (.f 117) [.t 22], none, 1⟩,
   ⟨(some 5), .mv (.t 23), none, 3⟩] false)
 (.seq (.reg [⟨(some 24), .faddr (.t 3) 4, none, 0⟩,
   ⟨(some 25), .load false 1 (.t 24), none, 1⟩,
   ⟨(some 26), .bin .geq (.t 25) (.c (.pv (.int .i64 (0)))), none, 3⟩,
   ⟨(some 27), .mv (.t 26), none, 7⟩,
   ⟨(some 28), .faddr (.t 3) 4, (some (27, true)), 15⟩,
   ⟨(some 29), .load false 1 (.t 28), (some (27, true)), 31⟩,
   ⟨(some 30), .bin .leq (.t 29) (.c (.pv (.int .i64 (20000)))), (some (27, true)), 63⟩,
   ⟨(some 31), .pick (.t 27) (.t 30) (.c (.pv (.bool false))), none, 127⟩,
   ⟨(some 32), .mv (.t 31), none, 255⟩,
   ⟨(some 33), .faddr (.t 3) 5, (some (32, true)), 511⟩,
   ⟨(some 34), .load false 1 (.t 33), (some (32, true)), 1023⟩,
   ⟨(some 35), .bin .geq (.t 34) (.c (.pv (.int .i64 (0)))), (some (32, true)), 2047⟩,
   ⟨(some 36), .pick (.t 32) (.t 35) (.c (.pv (.bool false))), none, 4095⟩,
   ⟨(some 37), .mv (.t 36), none, 8191⟩,
   ⟨(some 38), .faddr (.t 3) 6, (some (37, true)), 16383⟩,
   ⟨(some 39), .load false 1 (.t 38), (some (37, true)), 32767⟩,
   ⟨(some 40), .bin .geq (.t 39) (.c (.pv (.int .i64 (0)))), (some (37, true)), 65535⟩,
   ⟨(some 41), .pick (.t 37) (.t 40) (.c (.pv (.bool false))), none, 131071⟩,
   ⟨(some 42), .mv (.t 41), none, 262143⟩,
   ⟨(some 43), .faddr (.t 3) 5, (some (42, true)), 524287⟩,
   ⟨(some 44), .load false 1 (.t 43), (some (42, true)), 1048575⟩,
   ⟨(some 45), .mv (.t 5), (some (42, true)), 524287⟩,
   ⟨(some 46), .bin .leq (.t 44) (.t 45), (some (42, true)), 4194303⟩,
   ⟨(some 47), .pick (.t 42) (.t 46) (.c (.pv (.bool false))), none, 8388607⟩,
   ⟨(some 48), .mv (.t 47), none, 16777215⟩,
   ⟨(some 49), .faddr (.t 3) 6, (some (48, true)), 33554431⟩,
   ⟨(some 50), .load false 1 (.t 49), (some (48, true)), 67108863⟩,
   ⟨(some 51), .mv (.t 5), (some (48, true)), 33554431⟩,
   ⟨(some 52), .faddr (.t 3) 5, (some (48, true)), 33554431⟩,
   ⟨(some 53), .load false 1 (.t 52), (some (48, true)), 301989887⟩,
   ⟨(some 54), .bin .sub (.t 51) (.t 53), (some (48, true)), 973078527⟩,
   ⟨(some 55), .bin .leq (.t 50) (.t 54), (some (48, true)), 2147483647⟩,
   ⟨(some 56), .pick (.t 48) (.t 55) (.c (.pv (.bool false))), none, 4294967295⟩,
   ⟨(some 4), .mv (.t 56), none, 8589934591⟩] false)
 (.ret))))⟩
def c104 : RFn := ⟨2, 9, [.tmp 4],
 .seq (.reg [⟨(some 4), .mv (.c (.pv (.bool false))), none, 0⟩] false)
 (.seq (.reg [⟨(some 5), .mv (.t 0), none, 0⟩,
   ⟨(some 6), .mv (.t 1), none, 0⟩,
   ⟨(some 7), .call (.f 118) [.t 5, .t 6], none, 3⟩,
   ⟨(some 8), .bin .geq (.t 7) (.c (.pv (.int .i64 (0)))), none, 7⟩,
   ⟨(some 4), .mv (.t 8), none, 15⟩] false)
 (.ret))⟩
end Go.Ab.Rk
