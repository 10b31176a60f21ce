/- The code of functions of the program, printed by a program. Under: nothing. -/
import Derived.Test.YthpnccneaaeomaaGreatDoorAbG6
namespace Go.Ab.Fk
open Go.Ab
def c3 : RFn := ⟨0, 352, [.tmp 0],
 .seq (.reg [⟨(some 0), .mv (.c (.pv (.bool false))), none, 0⟩] false)
 (.seq (.seq (.reg [⟨(some 43), .call (.f 4) [], none, 0⟩,
   ⟨(some 44), .not (.t 43), none, 1⟩] false)
 (.cond (.t 44)
  (.seq (.reg [⟨(some 0), .mv (.c (.pv (.bool false))), none, 0⟩] false)
  (.ret))
  (.skip)))
 (.seq (.reg [⟨(some 46), .call (.f 6) [.c (.pv (.int .i64 (1)))], none, 0⟩,
   ⟨(some 47), .call (.f 7) [.c (.pv (.str [97, 100, 100]))], none, 1⟩,
   ⟨(some 48), .call (.f 6) [.c (.pv (.int .i64 (5)))], none, 3⟩,
   ⟨(some 49), .bsl 7 3 [.pv (.int .i64 (0)), .pv (.bool false), .pv (.int .i64 (0)), .pv (.str []), .pv (.int .i64 (0)), .pv (.int .i64 (0)), .pv (.int .i64 (0))] [(0, .t 46), (1, .t 47), (2, .t 48)], none, 7⟩,
   ⟨(some 50), .call (.f 5) [.t 49], none, 15⟩,
   ⟨(some 45), .mv (.t 50), none, 31⟩,
   ⟨(some 51), .extract (.t 45) 0, none, 63⟩,
   ⟨(some 52), .extract (.t 45) 1, none, 63⟩,
   ⟨(some 1), .alloc [.emp 7, .emp 7, .emp 7, .emp 3, .pv (.int .i64 (0)), .pv (.int .i64 (0)), .pv (.int .i64 (0)), .pv (.int .i64 (0)), .pv (.int .i64 (0)), .pv (.int .i64 (0)), .pv (.int .i64 (0)), .emp 7, .pv (.int .i64 (0)), .pv (.int .i64 (0)), .pv (.int .i64 (0)), .pv (.int .i64 (0)), .pv (.int .i64 (0)), .pv (.int .i64 (0)), .pv (.int .i64 (0)), .pv (.int .i64 (0)), .pv (.int .i64 (0)), .pv (.int .i64 (0)), .pv (.int .i64 (0)), .pv (.int .i64 (0)), .pv (.int .i64 (0)), .pv (.int .i64 (0)), .pv (.int .i64 (0)), .pv (.int .i64 (0)), .pv (.int .i64 (0)), .pv (.int .i64 (0)), .pv (.int .i64 (0)), .pv (.int .i64 (0)), .pv (.bool false), .pv (.bool false), .emp 47, .pv (.int .i64 (0)), .pv (.int .i64 (0)), .pv (.int .i64 (0)), .pv (.int .i64 (0)), .pv (.int .i64 (0)), .pv (.int .i64 (0)), .pv (.int .i64 (0)), .pv (.int .i64 (0)), .emp 1, .pv (.int .i64 (0)), .pv (.int .i64 (0)), .emp 2, .pv (.int .i64 (0)), .pv (.bool false), .pv (.int .i64 (0)), .pv (.str []), .pv (.int .i64 (0)), .pv (.int .i64 (0)), .pv (.int .i64 (0)), .pv (.int .i64 (0)), .pv (.int .i64 (0)), .pv (.int .i64 (0)), .pv (.int .i64 (0)), .pv (.int .i64 (0)), .pv (.int .i64 (0)), .pv (.int .i64 (0)), .pv (.int .i64 (0)), .emp 57, .emp 47, .emp 3, .pv (.str []), .pv (.int .i64 (0))], none, 0⟩,
   ⟨none, .store 67 (.t 1) (.t 51), none, 383⟩,
   ⟨(some 2), .mv (.t 52), none, 1023⟩] false)
 (.seq (.reg [⟨(some 54), .load true 67 (.t 1), none, 0⟩,
   ⟨(some 55), .call (.f 8) [.t 54, .c (.pv (.str [46, 114, 101, 99, 111, 114, 100]))], none, 1⟩,
   ⟨(some 53), .mv (.t 55), none, 3⟩,
   ⟨(some 56), .extract (.t 53) 0, none, 7⟩,
   ⟨(some 57), .extract (.t 53) 1, none, 7⟩,
   ⟨(some 3), .alloc [.emp 7, .emp 7, .emp 7, .emp 3, .pv (.int .i64 (0)), .pv (.int .i64 (0)), .pv (.int .i64 (0)), .pv (.int .i64 (0)), .pv (.int .i64 (0)), .pv (.int .i64 (0)), .pv (.int .i64 (0)), .emp 7, .pv (.int .i64 (0)), .pv (.int .i64 (0)), .pv (.int .i64 (0)), .pv (.int .i64 (0)), .pv (.int .i64 (0)), .pv (.int .i64 (0)), .pv (.int .i64 (0)), .pv (.int .i64 (0)), .pv (.int .i64 (0)), .pv (.int .i64 (0)), .pv (.int .i64 (0)), .pv (.int .i64 (0)), .pv (.int .i64 (0)), .pv (.int .i64 (0)), .pv (.int .i64 (0)), .pv (.int .i64 (0)), .pv (.int .i64 (0)), .pv (.int .i64 (0)), .pv (.int .i64 (0)), .pv (.int .i64 (0)), .pv (.bool false), .pv (.bool false), .emp 47, .pv (.int .i64 (0)), .pv (.int .i64 (0)), .pv (.int .i64 (0)), .pv (.int .i64 (0)), .pv (.int .i64 (0)), .pv (.int .i64 (0)), .pv (.int .i64 (0)), .pv (.int .i64 (0)), .emp 1, .pv (.int .i64 (0)), .pv (.int .i64 (0)), .emp 2, .pv (.int .i64 (0)), .pv (.bool false), .pv (.int .i64 (0)), .pv (.str []), .pv (.int .i64 (0)), .pv (.int .i64 (0)), .pv (.int .i64 (0)), .pv (.int .i64 (0)), .pv (.int .i64 (0)), .pv (.int .i64 (0)), .pv (.int .i64 (0)), .pv (.int .i64 (0)), .pv (.int .i64 (0)), .pv (.int .i64 (0)), .pv (.int .i64 (0)), .emp 57, .emp 47, .emp 3, .pv (.str []), .pv (.int .i64 (0))], none, 0⟩,
   ⟨none, .store 67 (.t 3) (.t 56), none, 47⟩,
   ⟨(some 4), .mv (.t 57), none, 127⟩] false)
 (.seq (.reg [⟨(some 58), .faddr (.t 1) 0, none, 0⟩,
   ⟨(some 59), .load false 1 (.t 58), none, 1⟩,
   ⟨(some 60), .slice 7 (.t 59) none (some (.c (.pv (.int .i64 (1))))) none, none, 3⟩,
   ⟨(some 61), .faddr (.t 1) 0, none, 7⟩,
   ⟨none, .store 1 (.t 61) (.t 60), none, 15⟩] false)
 (.seq (.reg [⟨(some 63), .load true 67 (.t 1), none, 0⟩,
   ⟨(some 64), .call (.f 8) [.t 63, .c (.pv (.str [46, 114, 101, 99, 111, 114, 100]))], none, 1⟩,
   ⟨(some 62), .mv (.t 64), none, 3⟩,
   ⟨(some 65), .extract (.t 62) 0, none, 7⟩,
   ⟨(some 66), .extract (.t 62) 1, none, 7⟩,
   ⟨(some 5), .alloc [.emp 7, .emp 7, .emp 7, .emp 3, .pv (.int .i64 (0)), .pv (.int .i64 (0)), .pv (.int .i64 (0)), .pv (.int .i64 (0)), .pv (.int .i64 (0)), .pv (.int .i64 (0)), .pv (.int .i64 (0)), .emp 7, .pv (.int .i64 (0)), .pv (.int .i64 (0)), .pv (.int .i64 (0)), .pv (.int .i64 (0)), .pv (.int .i64 (0)), .pv (.int .i64 (0)), .pv (.int .i64 (0)), .pv (.int .i64 (0)), .pv (.int .i64 (0)), .pv (.int .i64 (0)), .pv (.int .i64 (0)), .pv (.int .i64 (0)), .pv (.int .i64 (0)), .pv (.int .i64 (0)), .pv (.int .i64 (0)), .pv (.int .i64 (0)), .pv (.int .i64 (0)), .pv (.int .i64 (0)), .pv (.int .i64 (0)), .pv (.int .i64 (0)), .pv (.bool false), .pv (.bool false), .emp 47, .pv (.int .i64 (0)), .pv (.int .i64 (0)), .pv (.int .i64 (0)), .pv (.int .i64 (0)), .pv (.int .i64 (0)), .pv (.int .i64 (0)), .pv (.int .i64 (0)), .pv (.int .i64 (0)), .emp 1, .pv (.int .i64 (0)), .pv (.int .i64 (0)), .emp 2, .pv (.int .i64 (0)), .pv (.bool false), .pv (.int .i64 (0)), .pv (.str []), .pv (.int .i64 (0)), .pv (.int .i64 (0)), .pv (.int .i64 (0)), .pv (.int .i64 (0)), .pv (.int .i64 (0)), .pv (.int .i64 (0)), .pv (.int .i64 (0)), .pv (.int .i64 (0)), .pv (.int .i64 (0)), .pv (.int .i64 (0)), .pv (.int .i64 (0)), .emp 57, .emp 47, .emp 3, .pv (.str []), .pv (.int .i64 (0))], none, 0⟩,
   ⟨none, .store 67 (.t 5) (.t 65), none, 47⟩,
   ⟨(some 6), .mv (.t 66), none, 127⟩] false)
 (.seq (.reg [⟨(some 68), .load true 67 (.t 1), none, 0⟩,
   ⟨(some 69), .call (.f 8) [.t 68, .c (.pv (.str [115, 116, 111, 112]))], none, 1⟩,
   ⟨(some 67), .mv (.t 69), none, 3⟩,
   ⟨(some 70), .extract (.t 67) 0, none, 7⟩,
   ⟨(some 71), .extract (.t 67) 1, none, 7⟩,
   ⟨(some 7), .alloc [.emp 7, .emp 7, .emp 7, .emp 3, .pv (.int .i64 (0)), .pv (.int .i64 (0)), .pv (.int .i64 (0)), .pv (.int .i64 (0)), .pv (.int .i64 (0)), .pv (.int .i64 (0)), .pv (.int .i64 (0)), .emp 7, .pv (.int .i64 (0)), .pv (.int .i64 (0)), .pv (.int .i64 (0)), .pv (.int .i64 (0)), .pv (.int .i64 (0)), .pv (.int .i64 (0)), .pv (.int .i64 (0)), .pv (.int .i64 (0)), .pv (.int .i64 (0)), .pv (.int .i64 (0)), .pv (.int .i64 (0)), .pv (.int .i64 (0)), .pv (.int .i64 (0)), .pv (.int .i64 (0)), .pv (.int .i64 (0)), .pv (.int .i64 (0)), .pv (.int .i64 (0)), .pv (.int .i64 (0)), .pv (.int .i64 (0)), .pv (.int .i64 (0)), .pv (.bool false), .pv (.bool false), .emp 47, .pv (.int .i64 (0)), .pv (.int .i64 (0)), .pv (.int .i64 (0)), .pv (.int .i64 (0)), .pv (.int .i64 (0)), .pv (.int .i64 (0)), .pv (.int .i64 (0)), .pv (.int .i64 (0)), .emp 1, .pv (.int .i64 (0)), .pv (.int .i64 (0)), .emp 2, .pv (.int .i64 (0)), .pv (.bool false), .pv (.int .i64 (0)), .pv (.str []), .pv (.int .i64 (0)), .pv (.int .i64 (0)), .pv (.int .i64 (0)), .pv (.int .i64 (0)), .pv (.int .i64 (0)), .pv (.int .i64 (0)), .pv (.int .i64 (0)), .pv (.int .i64 (0)), .pv (.int .i64 (0)), .pv (.int .i64 (0)), .pv (.int .i64 (0)), .emp 57, .emp 47, .emp 3, .pv (.str []), .pv (.int .i64 (0))], none, 0⟩,
   ⟨none, .store 67 (.t 7) (.t 70), none, 47⟩,
   ⟨(some 8), .mv (.t 71), none, 127⟩] false)
 (.seq (.reg [⟨(some 73), .load true 67 (.t 1), none, 0⟩,
   ⟨(some 74), .call (.f 8) [.t 73, .c (.pv (.str [104, 97, 110, 100, 108, 101, 101, 114, 114, 111, 114]))], none, 1⟩,
   ⟨(some 72), .mv (.t 74), none, 3⟩,
   ⟨(some 75), .extract (.t 72) 0, none, 7⟩,
   ⟨(some 76), .extract (.t 72) 1, none, 7⟩,
   ⟨(some 9), .alloc [.emp 7, .emp 7, .emp 7, .emp 3, .pv (.int .i64 (0)), .pv (.int .i64 (0)), .pv (.int .i64 (0)), .pv (.int .i64 (0)), .pv (.int .i64 (0)), .pv (.int .i64 (0)), .pv (.int .i64 (0)), .emp 7, .pv (.int .i64 (0)), .pv (.int .i64 (0)), .pv (.int .i64 (0)), .pv (.int .i64 (0)), .pv (.int .i64 (0)), .pv (.int .i64 (0)), .pv (.int .i64 (0)), .pv (.int .i64 (0)), .pv (.int .i64 (0)), .pv (.int .i64 (0)), .pv (.int .i64 (0)), .pv (.int .i64 (0)), .pv (.int .i64 (0)), .pv (.int .i64 (0)), .pv (.int .i64 (0)), .pv (.int .i64 (0)), .pv (.int .i64 (0)), .pv (.int .i64 (0)), .pv (.int .i64 (0)), .pv (.int .i64 (0)), .pv (.bool false), .pv (.bool false), .emp 47, .pv (.int .i64 (0)), .pv (.int .i64 (0)), .pv (.int .i64 (0)), .pv (.int .i64 (0)), .pv (.int .i64 (0)), .pv (.int .i64 (0)), .pv (.int .i64 (0)), .pv (.int .i64 (0)), .emp 1, .pv (.int .i64 (0)), .pv (.int .i64 (0)), .emp 2, .pv (.int .i64 (0)), .pv (.bool false), .pv (.int .i64 (0)), .pv (.str []), .pv (.int .i64 (0)), .pv (.int .i64 (0)), .pv (.int .i64 (0)), .pv (.int .i64 (0)), .pv (.int .i64 (0)), .pv (.int .i64 (0)), .pv (.int .i64 (0)), .pv (.int .i64 (0)), .pv (.int .i64 (0)), .pv (.int .i64 (0)), .pv (.int .i64 (0)), .emp 57, .emp 47, .emp 3, .pv (.str []), .pv (.int .i64 (0))], none, 0⟩,
   ⟨none, .store 67 (.t 9) (.t 75), none, 47⟩,
   ⟨(some 10), .mv (.t 76), none, 127⟩] false)
 (.seq (.reg [⟨(some 78), .load true 67 (.t 1), none, 0⟩,
   ⟨(some 79), .call (.f 9) [.t 78, .c (.pv (.int .i64 (42)))], none, 1⟩,
   ⟨(some 77), .mv (.t 79), none, 3⟩,
   ⟨(some 80), .extract (.t 77) 0, none, 7⟩,
   ⟨(some 81), .extract (.t 77) 1, none, 7⟩,
   ⟨(some 11), .alloc [.pv (.int .i64 (0)), .pv (.bool false), .pv (.int .i64 (0)), .pv (.str []), .pv (.int .i64 (0)), .pv (.int .i64 (0)), .pv (.int .i64 (0))], none, 0⟩,
   ⟨none, .store 7 (.t 11) (.t 80), none, 47⟩,
   ⟨(some 12), .mv (.t 81), none, 127⟩] false)
 (.seq (.reg [⟨(some 83), .load true 67 (.t 1), none, 0⟩,
   ⟨(some 84), .call (.f 9) [.t 83, .c (.pv (.int .i64 (19)))], none, 1⟩,
   ⟨(some 82), .mv (.t 84), none, 3⟩,
   ⟨(some 85), .extract (.t 82) 0, none, 7⟩,
   ⟨(some 86), .extract (.t 82) 1, none, 7⟩,
   ⟨(some 13), .alloc [.pv (.int .i64 (0)), .pv (.bool false), .pv (.int .i64 (0)), .pv (.str []), .pv (.int .i64 (0)), .pv (.int .i64 (0)), .pv (.int .i64 (0))], none, 0⟩,
   ⟨none, .store 7 (.t 13) (.t 85), none, 47⟩,
   ⟨(some 14), .mv (.t 86), none, 127⟩] false)
 (.seq (.reg [⟨(some 88), .call (.f 10) [.c (.emp 7)], none, 0⟩,
   ⟨(some 87), .mv (.t 88), none, 1⟩,
   ⟨(some 89), .extract (.t 87) 0, none, 3⟩,
   ⟨(some 90), .extract (.t 87) 1, none, 3⟩,
   ⟨(some 15), .mv (.t 89), none, 7⟩,
   ⟨(some 16), .mv (.t 90), none, 31⟩] false)
 (.seq (.reg [⟨(some 92), .build [.pv (.int .i64 (0)), .pv (.str []), .emp 7, .emp 7, .emp 7, .pv (.int .i64 (0)), .pv (.int .i64 (0))] [(0, 1, .c (.pv (.int .i64 (3))))], none, 0⟩,
   ⟨(some 93), .build [.pv (.int .i64 (0)), .pv (.str []), .emp 7, .emp 7, .emp 7, .pv (.int .i64 (0)), .pv (.int .i64 (0))] [(0, 1, .c (.pv (.int .i64 (3))))], none, 0⟩,
   ⟨(some 94), .build [.pv (.int .i64 (0)), .pv (.str []), .emp 7, .emp 7, .emp 7, .pv (.int .i64 (0)), .pv (.int .i64 (0))] [(0, 1, .c (.pv (.int .i64 (3)))), (5, 1, .c (.pv (.int .i64 (30))))], none, 0⟩,
   ⟨(some 95), .build [.pv (.int .i64 (0)), .pv (.str []), .emp 7, .emp 7, .emp 7, .pv (.int .i64 (0)), .pv (.int .i64 (0))] [(0, 1, .c (.pv (.int .i64 (1))))], none, 0⟩,
   ⟨(some 96), .bsl 7 4 [.pv (.int .i64 (0)), .pv (.str []), .emp 7, .emp 7, .emp 7, .pv (.int .i64 (0)), .pv (.int .i64 (0))] [(0, .t 92), (1, .t 93), (2, .t 94), (3, .t 95)], none, 15⟩,
   ⟨(some 97), .call (.f 10) [.t 96], none, 31⟩,
   ⟨(some 91), .mv (.t 97), none, 63⟩,
   ⟨(some 98), .extract (.t 91) 0, none, 127⟩,
   ⟨(some 99), .extract (.t 91) 1, none, 127⟩,
   ⟨(some 17), .mv (.t 98), none, 255⟩,
   ⟨(some 18), .mv (.t 99), none, 1023⟩] false)
 (.seq (.reg [⟨(some 100), .call (.f 11) [.c (.emp 1)], none, 0⟩,
   ⟨(some 19), .mv (.t 100), none, 1⟩] false)
 (.seq (.reg [⟨(some 101), .mv (.t 19), none, 0⟩,
   ⟨(some 102), .iaddr 7 (.t 101) (.c (.pv (.int .i64 (2)))), none, 1⟩,
   ⟨(some 103), .faddr (.t 102) 5, none, 3⟩,
   ⟨none, .store 1 (.t 103) (.c (.pv (.int .i64 (21)))), none, 7⟩] false)
 (.seq (.reg [⟨(some 105), .mv (.t 19), none, 0⟩,
   ⟨(some 106), .call (.f 10) [.t 105], none, 1⟩,
   ⟨(some 104), .mv (.t 106), none, 3⟩,
   ⟨(some 107), .extract (.t 104) 0, none, 7⟩,
   ⟨(some 108), .extract (.t 104) 1, none, 7⟩,
   ⟨(some 20), .mv (.t 107), none, 15⟩,
   ⟨(some 21), .mv (.t 108), none, 63⟩] false)
 (.seq (.reg [⟨(some 110), .call (.f 6) [.c (.pv (.int .i64 (1)))], none, 0⟩,
   ⟨(some 111), .call (.f 7) [.c (.pv (.str [97, 100, 100]))], none, 1⟩,
   ⟨(some 112), .call (.f 7) [.c (.pv (.str [116, 121, 112, 101, 99, 104, 101, 99, 107]))], none, 3⟩,
   ⟨(some 113), .bsl 7 3 [.pv (.int .i64 (0)), .pv (.bool false), .pv (.int .i64 (0)), .pv (.str []), .pv (.int .i64 (0)), .pv (.int .i64 (0)), .pv (.int .i64 (0))] [(0, .t 110), (1, .t 111), (2, .t 112)], none, 7⟩,
   ⟨(some 114), .call (.f 5) [.t 113], none, 15⟩,
   ⟨(some 109), .mv (.t 114), none, 31⟩,
   ⟨(some 115), .extract (.t 109) 0, none, 63⟩,
   ⟨(some 116), .extract (.t 109) 1, none, 63⟩,
   ⟨(some 22), .alloc [.emp 7, .emp 7, .emp 7, .emp 3, .pv (.int .i64 (0)), .pv (.int .i64 (0)), .pv (.int .i64 (0)), .pv (.int .i64 (0)), .pv (.int .i64 (0)), .pv (.int .i64 (0)), .pv (.int .i64 (0)), .emp 7, .pv (.int .i64 (0)), .pv (.int .i64 (0)), .pv (.int .i64 (0)), .pv (.int .i64 (0)), .pv (.int .i64 (0)), .pv (.int .i64 (0)), .pv (.int .i64 (0)), .pv (.int .i64 (0)), .pv (.int .i64 (0)), .pv (.int .i64 (0)), .pv (.int .i64 (0)), .pv (.int .i64 (0)), .pv (.int .i64 (0)), .pv (.int .i64 (0)), .pv (.int .i64 (0)), .pv (.int .i64 (0)), .pv (.int .i64 (0)), .pv (.int .i64 (0)), .pv (.int .i64 (0)), .pv (.int .i64 (0)), .pv (.bool false), .pv (.bool false), .emp 47, .pv (.int .i64 (0)), .pv (.int .i64 (0)), .pv (.int .i64 (0)), .pv (.int .i64 (0)), .pv (.int .i64 (0)), .pv (.int .i64 (0)), .pv (.int .i64 (0)), .pv (.int .i64 (0)), .emp 1, .pv (.int .i64 (0)), .pv (.int .i64 (0)), .emp 2, .pv (.int .i64 (0)), .pv (.bool false), .pv (.int .i64 (0)), .pv (.str []), .pv (.int .i64 (0)), .pv (.int .i64 (0)), .pv (.int .i64 (0)), .pv (.int .i64 (0)), .pv (.int .i64 (0)), .pv (.int .i64 (0)), .pv (.int .i64 (0)), .pv (.int .i64 (0)), .pv (.int .i64 (0)), .pv (.int .i64 (0)), .pv (.int .i64 (0)), .emp 57, .emp 47, .emp 3, .pv (.str []), .pv (.int .i64 (0))], none, 0⟩,
   ⟨none, .store 67 (.t 22) (.t 115), none, 383⟩,
   ⟨(some 23), .mv (.t 116), none, 1023⟩] false)
 (.seq (.seq (.reg [⟨(some 117), .mv (.t 2), none, 0⟩,
   ⟨(some 118), .not (.t 117), none, 1⟩,
   ⟨(some 119), .mv (.t 118), none, 3⟩,
   ⟨(some 120), .mv (.t 23), (some (119, false)), 7⟩,
   ⟨(some 121), .not (.t 120), (some (119, false)), 15⟩,
   ⟨(some 122), .pick (.t 119) (.c (.pv (.bool true))) (.t 121), none, 31⟩,
   ⟨(some 123), .mv (.t 122), none, 63⟩,
   ⟨(some 124), .mv (.t 10), (some (123, false)), 127⟩,
   ⟨(some 125), .bin .neq (.t 124) (.c (.pv (.int .i64 (0)))), (some (123, false)), 255⟩,
   ⟨(some 126), .pick (.t 123) (.c (.pv (.bool true))) (.t 125), none, 511⟩] false)
 (.cond (.t 126)
  (.seq (.reg [⟨(some 0), .mv (.c (.pv (.bool false))), none, 0⟩] false)
  (.ret))
  (.skip)))
 (.seq (.reg [⟨(some 127), .faddr (.t 22) 2, none, 0⟩,
   ⟨(some 128), .load false 1 (.t 127), none, 1⟩,
   ⟨(some 129), .call (.f 12) [.t 128], none, 3⟩,
   ⟨(some 130), .faddr (.t 22) 2, none, 7⟩,
   ⟨none, .store 1 (.t 130) (.t 129), none, 15⟩] false)
 (.seq (.reg [⟨(some 131), .faddr (.t 22) 2, none, 0⟩,
   ⟨(some 132), .load false 1 (.t 131), none, 1⟩,
   ⟨(some 133), .build [.pv (.int .i64 (0)), .pv (.str []), .emp 7, .emp 7, .emp 7, .pv (.int .i64 (0)), .pv (.int .i64 (0))] [(0, 1, .c (.pv (.int .i64 (3))))], none, 0⟩,
   ⟨(some 134), .iaddr 7 (.t 132) (.c (.pv (.int .i64 (3)))), none, 7⟩,
   ⟨none, .store 7 (.t 134) (.t 133), none, 15⟩] false)
 (.seq (.reg [⟨(some 136), .load true 67 (.t 22), none, 0⟩,
   ⟨(some 137), .call (.f 8) [.t 136, .c (.pv (.str [46, 114, 101, 99, 111, 114, 100]))], none, 1⟩,
   ⟨(some 135), .mv (.t 137), none, 3⟩,
   ⟨(some 138), .extract (.t 135) 0, none, 7⟩,
   ⟨(some 139), .extract (.t 135) 1, none, 7⟩,
   ⟨(some 24), .alloc [.emp 7, .emp 7, .emp 7, .emp 3, .pv (.int .i64 (0)), .pv (.int .i64 (0)), .pv (.int .i64 (0)), .pv (.int .i64 (0)), .pv (.int .i64 (0)), .pv (.int .i64 (0)), .pv (.int .i64 (0)), .emp 7, .pv (.int .i64 (0)), .pv (.int .i64 (0)), .pv (.int .i64 (0)), .pv (.int .i64 (0)), .pv (.int .i64 (0)), .pv (.int .i64 (0)), .pv (.int .i64 (0)), .pv (.int .i64 (0)), .pv (.int .i64 (0)), .pv (.int .i64 (0)), .pv (.int .i64 (0)), .pv (.int .i64 (0)), .pv (.int .i64 (0)), .pv (.int .i64 (0)), .pv (.int .i64 (0)), .pv (.int .i64 (0)), .pv (.int .i64 (0)), .pv (.int .i64 (0)), .pv (.int .i64 (0)), .pv (.int .i64 (0)), .pv (.bool false), .pv (.bool false), .emp 47, .pv (.int .i64 (0)), .pv (.int .i64 (0)), .pv (.int .i64 (0)), .pv (.int .i64 (0)), .pv (.int .i64 (0)), .pv (.int .i64 (0)), .pv (.int .i64 (0)), .pv (.int .i64 (0)), .emp 1, .pv (.int .i64 (0)), .pv (.int .i64 (0)), .emp 2, .pv (.int .i64 (0)), .pv (.bool false), .pv (.int .i64 (0)), .pv (.str []), .pv (.int .i64 (0)), .pv (.int .i64 (0)), .pv (.int .i64 (0)), .pv (.int .i64 (0)), .pv (.int .i64 (0)), .pv (.int .i64 (0)), .pv (.int .i64 (0)), .pv (.int .i64 (0)), .pv (.int .i64 (0)), .pv (.int .i64 (0)), .pv (.int .i64 (0)), .emp 57, .emp 47, .emp 3, .pv (.str []), .pv (.int .i64 (0))], none, 0⟩,
   ⟨none, .store 67 (.t 24) (.t 138), none, 47⟩,
   ⟨(some 25), .mv (.t 139), none, 127⟩] false)
 (.seq (.reg [⟨(some 141), .load true 67 (.t 24), none, 0⟩,
   ⟨(some 142), .call (.f 8) [.t 141, .c (.pv (.str [104, 97, 110, 100, 108, 101, 101, 114, 114, 111, 114]))], none, 1⟩,
   ⟨(some 140), .mv (.t 142), none, 3⟩,
   ⟨(some 143), .extract (.t 140) 0, none, 7⟩,
   ⟨(some 144), .extract (.t 140) 1, none, 7⟩,
   ⟨(some 26), .alloc [.emp 7, .emp 7, .emp 7, .emp 3, .pv (.int .i64 (0)), .pv (.int .i64 (0)), .pv (.int .i64 (0)), .pv (.int .i64 (0)), .pv (.int .i64 (0)), .pv (.int .i64 (0)), .pv (.int .i64 (0)), .emp 7, .pv (.int .i64 (0)), .pv (.int .i64 (0)), .pv (.int .i64 (0)), .pv (.int .i64 (0)), .pv (.int .i64 (0)), .pv (.int .i64 (0)), .pv (.int .i64 (0)), .pv (.int .i64 (0)), .pv (.int .i64 (0)), .pv (.int .i64 (0)), .pv (.int .i64 (0)), .pv (.int .i64 (0)), .pv (.int .i64 (0)), .pv (.int .i64 (0)), .pv (.int .i64 (0)), .pv (.int .i64 (0)), .pv (.int .i64 (0)), .pv (.int .i64 (0)), .pv (.int .i64 (0)), .pv (.int .i64 (0)), .pv (.bool false), .pv (.bool false), .emp 47, .pv (.int .i64 (0)), .pv (.int .i64 (0)), .pv (.int .i64 (0)), .pv (.int .i64 (0)), .pv (.int .i64 (0)), .pv (.int .i64 (0)), .pv (.int .i64 (0)), .pv (.int .i64 (0)), .emp 1, .pv (.int .i64 (0)), .pv (.int .i64 (0)), .emp 2, .pv (.int .i64 (0)), .pv (.bool false), .pv (.int .i64 (0)), .pv (.str []), .pv (.int .i64 (0)), .pv (.int .i64 (0)), .pv (.int .i64 (0)), .pv (.int .i64 (0)), .pv (.int .i64 (0)), .pv (.int .i64 (0)), .pv (.int .i64 (0)), .pv (.int .i64 (0)), .pv (.int .i64 (0)), .pv (.int .i64 (0)), .pv (.int .i64 (0)), .emp 57, .emp 47, .emp 3, .pv (.str []), .pv (.int .i64 (0))], none, 0⟩,
   ⟨none, .store 67 (.t 26) (.t 143), none, 47⟩,
   ⟨(some 27), .mv (.t 144), none, 127⟩] false)
 (.seq (.reg [⟨(some 146), .call (.f 6) [.c (.pv (.int .i64 (1)))], none, 0⟩,
   ⟨(some 147), .call (.f 7) [.c (.pv (.str [97, 100, 100]))], none, 1⟩,
   ⟨(some 148), .call (.f 7) [.c (.pv (.str [116, 121, 112, 101, 99, 104, 101, 99, 107]))], none, 3⟩,
   ⟨(some 149), .bsl 7 3 [.pv (.int .i64 (0)), .pv (.bool false), .pv (.int .i64 (0)), .pv (.str []), .pv (.int .i64 (0)), .pv (.int .i64 (0)), .pv (.int .i64 (0))] [(0, .t 146), (1, .t 147), (2, .t 148)], none, 7⟩,
   ⟨(some 150), .call (.f 5) [.t 149], none, 15⟩,
   ⟨(some 145), .mv (.t 150), none, 31⟩,
   ⟨(some 151), .extract (.t 145) 0, none, 63⟩,
   ⟨(some 152), .extract (.t 145) 1, none, 63⟩,
   ⟨(some 28), .alloc [.emp 7, .emp 7, .emp 7, .emp 3, .pv (.int .i64 (0)), .pv (.int .i64 (0)), .pv (.int .i64 (0)), .pv (.int .i64 (0)), .pv (.int .i64 (0)), .pv (.int .i64 (0)), .pv (.int .i64 (0)), .emp 7, .pv (.int .i64 (0)), .pv (.int .i64 (0)), .pv (.int .i64 (0)), .pv (.int .i64 (0)), .pv (.int .i64 (0)), .pv (.int .i64 (0)), .pv (.int .i64 (0)), .pv (.int .i64 (0)), .pv (.int .i64 (0)), .pv (.int .i64 (0)), .pv (.int .i64 (0)), .pv (.int .i64 (0)), .pv (.int .i64 (0)), .pv (.int .i64 (0)), .pv (.int .i64 (0)), .pv (.int .i64 (0)), .pv (.int .i64 (0)), .pv (.int .i64 (0)), .pv (.int .i64 (0)), .pv (.int .i64 (0)), .pv (.bool false), .pv (.bool false), .emp 47, .pv (.int .i64 (0)), .pv (.int .i64 (0)), .pv (.int .i64 (0)), .pv (.int .i64 (0)), .pv (.int .i64 (0)), .pv (.int .i64 (0)), .pv (.int .i64 (0)), .pv (.int .i64 (0)), .emp 1, .pv (.int .i64 (0)), .pv (.int .i64 (0)), .emp 2, .pv (.int .i64 (0)), .pv (.bool false), .pv (.int .i64 (0)), .pv (.str []), .pv (.int .i64 (0)), .pv (.int .i64 (0)), .pv (.int .i64 (0)), .pv (.int .i64 (0)), .pv (.int .i64 (0)), .pv (.int .i64 (0)), .pv (.int .i64 (0)), .pv (.int .i64 (0)), .pv (.int .i64 (0)), .pv (.int .i64 (0)), .pv (.int .i64 (0)), .emp 57, .emp 47, .emp 3, .pv (.str []), .pv (.int .i64 (0))], none, 0⟩,
   ⟨none, .store 67 (.t 28) (.t 151), none, 383⟩,
   ⟨(some 29), .mv (.t 152), none, 1023⟩] false)
 (.seq (.seq (.reg [⟨(some 153), .faddr (.t 28) 2, none, 0⟩,
   ⟨(some 154), .load false 1 (.t 153), none, 1⟩,
   ⟨(some 155), .call (.f 13) [.t 154], none, 3⟩,
   ⟨(some 156), .bin .sub (.c (.pv (.int .i64 (20000)))) (.t 155), none, 7⟩,
   ⟨(some 30), .mv (.t 156), none, 15⟩] false)
 (.block 0
  (.loop [4, 6, 8, 9, 12, 14, 16, 18, 21, 22, 24, 25, 26, 27, 28, 29, 30]
   (.seq (.seq (.reg [⟨(some 157), .mv (.t 30), none, 0⟩,
     ⟨(some 158), .bin .gtr (.t 157) (.c (.pv (.int .i64 (0)))), none, 1⟩] false)
   (.cond (.t 158)
    (.skip)
    (.exit 0)))
   (.seq (.block 1
    (.reg [⟨(some 161), .faddr (.t 28) 2, none, 0⟩,
      ⟨(some 162), .load false 1 (.t 161), none, 1⟩,
      ⟨(some 163), .mv (.t 30), none, 0⟩,
      ⟨(some 164), .bin .sub (.t 163) (.c (.pv (.int .i64 (1)))), none, 4⟩,
      ⟨(some 165), .mm false [.t 164, .c (.pv (.int .i64 (1000)))], none, 12⟩,
      ⟨(some 166), .mksl 1 1 [.int .u8 (0)] (.t 165), none, 28⟩,
      ⟨(some 167), .b2s (.t 166), none, 60⟩,
      ⟨(some 168), .build [.pv (.int .i64 (0)), .pv (.str []), .emp 7, .emp 7, .emp 7, .pv (.int .i64 (0)), .pv (.int .i64 (0))] [(0, 1, .c (.pv (.int .i64 (1)))), (1, 1, .t 167)], none, 124⟩,
      ⟨(some 169), .bsl 7 1 [.pv (.int .i64 (0)), .pv (.str []), .emp 7, .emp 7, .emp 7, .pv (.int .i64 (0)), .pv (.int .i64 (0))] [(0, .t 168)], none, 252⟩,
      ⟨(some 170), .append 7 112 (.t 162) (.t 169), none, 511⟩,
      ⟨(some 171), .faddr (.t 28) 2, none, 1023⟩,
      ⟨none, .store 1 (.t 171) (.t 170), none, 2047⟩] true))
   (.reg [⟨(some 159), .mv (.t 30), none, 0⟩,
     ⟨(some 160), .bin .sub (.t 159) (.c (.pv (.int .i64 (1001)))), none, 1⟩,
     ⟨(some 30), .mv (.t 160), none, 3⟩] false))))))
 (.seq (.reg [⟨(some 173), .load true 67 (.t 28), none, 0⟩,
   ⟨(some 174), .call (.f 8) [.t 173, .c (.pv (.str [46, 114, 101, 99, 111, 114, 100]))], none, 1⟩,
   ⟨(some 172), .mv (.t 174), none, 3⟩,
   ⟨(some 175), .extract (.t 172) 0, none, 7⟩,
   ⟨(some 176), .extract (.t 172) 1, none, 7⟩,
   ⟨(some 31), .alloc [.emp 7, .emp 7, .emp 7, .emp 3, .pv (.int .i64 (0)), .pv (.int .i64 (0)), .pv (.int .i64 (0)), .pv (.int .i64 (0)), .pv (.int .i64 (0)), .pv (.int .i64 (0)), .pv (.int .i64 (0)), .emp 7, .pv (.int .i64 (0)), .pv (.int .i64 (0)), .pv (.int .i64 (0)), .pv (.int .i64 (0)), .pv (.int .i64 (0)), .pv (.int .i64 (0)), .pv (.int .i64 (0)), .pv (.int .i64 (0)), .pv (.int .i64 (0)), .pv (.int .i64 (0)), .pv (.int .i64 (0)), .pv (.int .i64 (0)), .pv (.int .i64 (0)), .pv (.int .i64 (0)), .pv (.int .i64 (0)), .pv (.int .i64 (0)), .pv (.int .i64 (0)), .pv (.int .i64 (0)), .pv (.int .i64 (0)), .pv (.int .i64 (0)), .pv (.bool false), .pv (.bool false), .emp 47, .pv (.int .i64 (0)), .pv (.int .i64 (0)), .pv (.int .i64 (0)), .pv (.int .i64 (0)), .pv (.int .i64 (0)), .pv (.int .i64 (0)), .pv (.int .i64 (0)), .pv (.int .i64 (0)), .emp 1, .pv (.int .i64 (0)), .pv (.int .i64 (0)), .emp 2, .pv (.int .i64 (0)), .pv (.bool false), .pv (.int .i64 (0)), .pv (.str []), .pv (.int .i64 (0)), .pv (.int .i64 (0)), .pv (.int .i64 (0)), .pv (.int .i64 (0)), .pv (.int .i64 (0)), .pv (.int .i64 (0)), .pv (.int .i64 (0)), .pv (.int .i64 (0)), .pv (.int .i64 (0)), .pv (.int .i64 (0)), .pv (.int .i64 (0)), .emp 57, .emp 47, .emp 3, .pv (.str []), .pv (.int .i64 (0))], none, 0⟩,
   ⟨none, .store 67 (.t 31) (.t 175), none, 47⟩,
   ⟨(some 32), .mv (.t 176), none, 127⟩] false)
 (.seq (.reg [⟨(some 178), .call (.f 6) [.c (.pv (.int .i64 (1)))], none, 0⟩,
   ⟨(some 179), .call (.f 7) [.c (.pv (.str [97, 100, 100]))], none, 1⟩,
   ⟨(some 180), .call (.f 7) [.c (.pv (.str [116, 121, 112, 101, 99, 104, 101, 99, 107]))], none, 3⟩,
   ⟨(some 181), .bsl 7 3 [.pv (.int .i64 (0)), .pv (.bool false), .pv (.int .i64 (0)), .pv (.str []), .pv (.int .i64 (0)), .pv (.int .i64 (0)), .pv (.int .i64 (0))] [(0, .t 178), (1, .t 179), (2, .t 180)], none, 7⟩,
   ⟨(some 182), .call (.f 5) [.t 181], none, 15⟩,
   ⟨(some 177), .mv (.t 182), none, 31⟩,
   ⟨(some 183), .extract (.t 177) 0, none, 63⟩,
   ⟨(some 184), .extract (.t 177) 1, none, 63⟩,
   ⟨(some 33), .alloc [.emp 7, .emp 7, .emp 7, .emp 3, .pv (.int .i64 (0)), .pv (.int .i64 (0)), .pv (.int .i64 (0)), .pv (.int .i64 (0)), .pv (.int .i64 (0)), .pv (.int .i64 (0)), .pv (.int .i64 (0)), .emp 7, .pv (.int .i64 (0)), .pv (.int .i64 (0)), .pv (.int .i64 (0)), .pv (.int .i64 (0)), .pv (.int .i64 (0)), .pv (.int .i64 (0)), .pv (.int .i64 (0)), .pv (.int .i64 (0)), .pv (.int .i64 (0)), .pv (.int .i64 (0)), .pv (.int .i64 (0)), .pv (.int .i64 (0)), .pv (.int .i64 (0)), .pv (.int .i64 (0)), .pv (.int .i64 (0)), .pv (.int .i64 (0)), .pv (.int .i64 (0)), .pv (.int .i64 (0)), .pv (.int .i64 (0)), .pv (.int .i64 (0)), .pv (.bool false), .pv (.bool false), .emp 47, .pv (.int .i64 (0)), .pv (.int .i64 (0)), .pv (.int .i64 (0)), .pv (.int .i64 (0)), .pv (.int .i64 (0)), .pv (.int .i64 (0)), .pv (.int .i64 (0)), .pv (.int .i64 (0)), .emp 1, .pv (.int .i64 (0)), .pv (.int .i64 (0)), .emp 2, .pv (.int .i64 (0)), .pv (.bool false), .pv (.int .i64 (0)), .pv (.str []), .pv (.int .i64 (0)), .pv (.int .i64 (0)), .pv (.int .i64 (0)), .pv (.int .i64 (0)), .pv (.int .i64 (0)), .pv (.int .i64 (0)), .pv (.int .i64 (0)), .pv (.int .i64 (0)), .pv (.int .i64 (0)), .pv (.int .i64 (0)), .pv (.int .i64 (0)), .emp 57, .emp 47, .emp 3, .pv (.str []), .pv (.int .i64 (0))], none, 0⟩,
   ⟨none, .store 67 (.t 33) (.t 183), none, 383⟩,
   ⟨(some 34), .mv (.t 184), none, 1023⟩] false)
 (.seq (.reg [⟨(some 186), .load true 67 (.t 33), none, 0⟩,
   ⟨(some 187), .call (.f 8) [.t 186, .c (.pv (.str [46, 114, 101, 99, 111, 114, 100]))], none, 1⟩,
   ⟨(some 185), .mv (.t 187), none, 3⟩,
   ⟨(some 188), .extract (.t 185) 0, none, 7⟩,
   ⟨(some 189), .extract (.t 185) 1, none, 7⟩,
   ⟨none, .store 67 (.t 33) (.t 188), none, 15⟩,
   ⟨(some 35), .mv (.t 189), none, 63⟩] false)
 (.seq (.reg [⟨(some 36), .mv (.c (.pv (.str [37, 37, 91, 32, 69, 114, 114, 111, 114, 58, 32, 116, 121, 112, 101, 99, 104, 101, 99, 107, 59, 32, 79, 102, 102, 101, 110, 100, 105, 110, 103, 67, 111, 109, 109, 97, 110, 100, 58, 32, 97, 100, 100, 32, 93, 37, 37, 10]))), none, 0⟩] false)
 (.seq (.reg [⟨(some 190), .mv (.t 36), none, 0⟩,
   ⟨(some 191), .strlen (.t 190), none, 1⟩,
   ⟨(some 192), .bin .sub (.c (.pv (.int .i64 (2000)))) (.t 191), none, 3⟩,
   ⟨(some 193), .mksl 1 1 [.int .u8 (0)] (.t 192), none, 7⟩,
   ⟨(some 194), .b2s (.t 193), none, 15⟩,
   ⟨(some 195), .faddr (.t 33) 65, none, 31⟩,
   ⟨none, .store 1 (.t 195) (.t 194), none, 63⟩] false)
 (.seq (.reg [⟨(some 197), .load true 67 (.t 33), none, 0⟩,
   ⟨(some 198), .call (.f 8) [.t 197, .c (.pv (.str [104, 97, 110, 100, 108, 101, 101, 114, 114, 111, 114]))], none, 1⟩,
   ⟨(some 196), .mv (.t 198), none, 3⟩,
   ⟨(some 199), .extract (.t 196) 0, none, 7⟩,
   ⟨(some 200), .extract (.t 196) 1, none, 7⟩,
   ⟨(some 37), .alloc [.emp 7, .emp 7, .emp 7, .emp 3, .pv (.int .i64 (0)), .pv (.int .i64 (0)), .pv (.int .i64 (0)), .pv (.int .i64 (0)), .pv (.int .i64 (0)), .pv (.int .i64 (0)), .pv (.int .i64 (0)), .emp 7, .pv (.int .i64 (0)), .pv (.int .i64 (0)), .pv (.int .i64 (0)), .pv (.int .i64 (0)), .pv (.int .i64 (0)), .pv (.int .i64 (0)), .pv (.int .i64 (0)), .pv (.int .i64 (0)), .pv (.int .i64 (0)), .pv (.int .i64 (0)), .pv (.int .i64 (0)), .pv (.int .i64 (0)), .pv (.int .i64 (0)), .pv (.int .i64 (0)), .pv (.int .i64 (0)), .pv (.int .i64 (0)), .pv (.int .i64 (0)), .pv (.int .i64 (0)), .pv (.int .i64 (0)), .pv (.int .i64 (0)), .pv (.bool false), .pv (.bool false), .emp 47, .pv (.int .i64 (0)), .pv (.int .i64 (0)), .pv (.int .i64 (0)), .pv (.int .i64 (0)), .pv (.int .i64 (0)), .pv (.int .i64 (0)), .pv (.int .i64 (0)), .pv (.int .i64 (0)), .emp 1, .pv (.int .i64 (0)), .pv (.int .i64 (0)), .emp 2, .pv (.int .i64 (0)), .pv (.bool false), .pv (.int .i64 (0)), .pv (.str []), .pv (.int .i64 (0)), .pv (.int .i64 (0)), .pv (.int .i64 (0)), .pv (.int .i64 (0)), .pv (.int .i64 (0)), .pv (.int .i64 (0)), .pv (.int .i64 (0)), .pv (.int .i64 (0)), .pv (.int .i64 (0)), .pv (.int .i64 (0)), .pv (.int .i64 (0)), .emp 57, .emp 47, .emp 3, .pv (.str []), .pv (.int .i64 (0))], none, 0⟩,
   ⟨none, .store 67 (.t 37) (.t 199), none, 47⟩,
   ⟨(some 38), .mv (.t 200), none, 127⟩] false)
 (.seq (.reg [⟨(some 201), .faddr (.t 33) 65, none, 0⟩,
   ⟨(some 202), .load false 1 (.t 201), none, 1⟩,
   ⟨(some 203), .bin .add (.t 202) (.c (.pv (.str [120]))), none, 3⟩,
   ⟨(some 204), .faddr (.t 33) 65, none, 7⟩,
   ⟨none, .store 1 (.t 204) (.t 203), none, 15⟩] false)
 (.seq (.reg [⟨(some 206), .load true 67 (.t 33), none, 0⟩,
   ⟨(some 207), .call (.f 8) [.t 206, .c (.pv (.str [104, 97, 110, 100, 108, 101, 101, 114, 114, 111, 114]))], none, 1⟩,
   ⟨(some 205), .mv (.t 207), none, 3⟩,
   ⟨(some 208), .extract (.t 205) 0, none, 7⟩,
   ⟨(some 209), .extract (.t 205) 1, none, 7⟩,
   ⟨(some 39), .alloc [.emp 7, .emp 7, .emp 7, .emp 3, .pv (.int .i64 (0)), .pv (.int .i64 (0)), .pv (.int .i64 (0)), .pv (.int .i64 (0)), .pv (.int .i64 (0)), .pv (.int .i64 (0)), .pv (.int .i64 (0)), .emp 7, .pv (.int .i64 (0)), .pv (.int .i64 (0)), .pv (.int .i64 (0)), .pv (.int .i64 (0)), .pv (.int .i64 (0)), .pv (.int .i64 (0)), .pv (.int .i64 (0)), .pv (.int .i64 (0)), .pv (.int .i64 (0)), .pv (.int .i64 (0)), .pv (.int .i64 (0)), .pv (.int .i64 (0)), .pv (.int .i64 (0)), .pv (.int .i64 (0)), .pv (.int .i64 (0)), .pv (.int .i64 (0)), .pv (.int .i64 (0)), .pv (.int .i64 (0)), .pv (.int .i64 (0)), .pv (.int .i64 (0)), .pv (.bool false), .pv (.bool false), .emp 47, .pv (.int .i64 (0)), .pv (.int .i64 (0)), .pv (.int .i64 (0)), .pv (.int .i64 (0)), .pv (.int .i64 (0)), .pv (.int .i64 (0)), .pv (.int .i64 (0)), .pv (.int .i64 (0)), .emp 1, .pv (.int .i64 (0)), .pv (.int .i64 (0)), .emp 2, .pv (.int .i64 (0)), .pv (.bool false), .pv (.int .i64 (0)), .pv (.str []), .pv (.int .i64 (0)), .pv (.int .i64 (0)), .pv (.int .i64 (0)), .pv (.int .i64 (0)), .pv (.int .i64 (0)), .pv (.int .i64 (0)), .pv (.int .i64 (0)), .pv (.int .i64 (0)), .pv (.int .i64 (0)), .pv (.int .i64 (0)), .pv (.int .i64 (0)), .emp 57, .emp 47, .emp 3, .pv (.str []), .pv (.int .i64 (0))], none, 0⟩,
   ⟨none, .store 67 (.t 39) (.t 208), none, 47⟩,
   ⟨(some 40), .mv (.t 209), none, 127⟩] false)
 (.seq (.reg [⟨(some 210), .mv (.t 25), none, 0⟩,
   ⟨(some 211), .bin .eql (.t 210) (.c (.pv (.int .i64 (0)))), none, 1⟩,
   ⟨(some 212), .mv (.t 211), none, 3⟩,
   ⟨(some 213), .mv (.t 27), (some (212, true)), 7⟩,
   ⟨(some 214), .bin .eql (.t 213) (.c (.pv (.int .i64 (0)))), (some (212, true)), 15⟩,
   ⟨(some 215), .pick (.t 212) (.t 214) (.c (.pv (.bool false))), none, 31⟩,
   ⟨(some 216), .mv (.t 215), none, 63⟩,
   ⟨(some 217), .faddr (.t 26) 65, (some (216, true)), 127⟩,
   ⟨(some 218), .load false 1 (.t 217), (some (216, true)), 255⟩,
   ⟨(some 219), .bin .eql (.t 218) (.c (.pv (.str []))), (some (216, true)), 511⟩,
   ⟨(some 220), .pick (.t 216) (.t 219) (.c (.pv (.bool false))), none, 1023⟩,
   ⟨(some 221), .mv (.t 220), none, 2047⟩,
   ⟨(some 222), .faddr (.t 24) 2, (some (221, true)), 4095⟩,
   ⟨(some 223), .load false 1 (.t 222), (some (221, true)), 8191⟩,
   ⟨(some 224), .slen (.t 223), (some (221, true)), 16383⟩,
   ⟨(some 225), .faddr (.t 22) 2, (some (221, true)), 4095⟩,
   ⟨(some 226), .load false 1 (.t 225), (some (221, true)), 36863⟩,
   ⟨(some 227), .slen (.t 226), (some (221, true)), 102399⟩,
   ⟨(some 228), .bin .add (.t 227) (.c (.pv (.int .i64 (1)))), (some (221, true)), 233471⟩,
   ⟨(some 229), .bin .eql (.t 224) (.t 228), (some (221, true)), 524287⟩,
   ⟨(some 230), .pick (.t 221) (.t 229) (.c (.pv (.bool false))), none, 1048575⟩,
   ⟨(some 231), .mv (.t 230), none, 2097151⟩,
   ⟨(some 232), .faddr (.t 24) 0, (some (231, true)), 4194303⟩,
   ⟨(some 233), .load false 1 (.t 232), (some (231, true)), 8388607⟩,
   ⟨(some 234), .slen (.t 233), (some (231, true)), 16777215⟩,
   ⟨(some 235), .bin .eql (.t 234) (.c (.pv (.int .i64 (1)))), (some (231, true)), 33554431⟩,
   ⟨(some 236), .pick (.t 231) (.t 235) (.c (.pv (.bool false))), none, 67108863⟩,
   ⟨(some 237), .mv (.t 236), none, 134217727⟩,
   ⟨(some 238), .mv (.t 29), (some (237, true)), 268435455⟩,
   ⟨(some 239), .pick (.t 237) (.t 238) (.c (.pv (.bool false))), none, 536870911⟩,
   ⟨(some 240), .mv (.t 239), none, 1073741823⟩,
   ⟨(some 241), .mv (.t 32), (some (240, true)), 2147483647⟩,
   ⟨(some 242), .bin .eql (.t 241) (.c (.pv (.int .i64 (0)))), (some (240, true)), 4294967295⟩,
   ⟨(some 243), .pick (.t 240) (.t 242) (.c (.pv (.bool false))), none, 8589934591⟩,
   ⟨(some 244), .mv (.t 243), none, 17179869183⟩,
   ⟨(some 245), .load true 67 (.t 31), (some (244, true)), 34359738367⟩,
   ⟨(some 246), .call (.f 14) [.t 245, .c (.pv (.str [111, 115, 116, 97, 99, 107]))], (some (244, true)), 68719476735⟩,
   ⟨(some 247), .build [.pv (.int .i64 (0)), .pv (.bool false), .pv (.int .i64 (0)), .pv (.str []), .pv (.int .i64 (0)), .pv (.int .i64 (0)), .pv (.int .i64 (0))] [], (some (244, true)), 34359738367⟩,
   ⟨(some 248), .eqs false [0, 1, 0, 2, 0, 0, 0] (.t 246) (.t 247), (some (244, true)), 274877906943⟩,
   ⟨(some 249), .pick (.t 244) (.t 248) (.c (.pv (.bool false))), none, 549755813887⟩,
   ⟨(some 250), .mv (.t 249), none, 1099511627775⟩,
   ⟨(some 251), .load true 67 (.t 31), (some (250, true)), 2199023255551⟩,
   ⟨(some 252), .call (.f 14) [.t 251, .c (.pv (.str [99, 111, 109, 109, 97, 110, 100]))], (some (250, true)), 4398046511103⟩,
   ⟨(some 253), .call (.f 7) [.c (.pv (.str [97, 100, 100]))], (some (250, true)), 8796093022207⟩,
   ⟨(some 254), .eqs false [0, 1, 0, 2, 0, 0, 0] (.t 252) (.t 253), (some (250, true)), 17592186044415⟩,
   ⟨(some 255), .pick (.t 250) (.t 254) (.c (.pv (.bool false))), none, 35184372088831⟩,
   ⟨(some 256), .mv (.t 255), none, 70368744177663⟩,
   ⟨(some 257), .mv (.t 34), (some (256, true)), 140737488355327⟩,
   ⟨(some 258), .pick (.t 256) (.t 257) (.c (.pv (.bool false))), none, 281474976710655⟩,
   ⟨(some 259), .mv (.t 258), none, 562949953421311⟩,
   ⟨(some 260), .mv (.t 35), (some (259, true)), 1125899906842623⟩,
   ⟨(some 261), .bin .eql (.t 260) (.c (.pv (.int .i64 (0)))), (some (259, true)), 2251799813685247⟩,
   ⟨(some 262), .pick (.t 259) (.t 261) (.c (.pv (.bool false))), none, 4503599627370495⟩,
   ⟨(some 263), .mv (.t 262), none, 9007199254740991⟩,
   ⟨(some 264), .mv (.t 38), (some (263, true)), 18014398509481983⟩,
   ⟨(some 265), .bin .eql (.t 264) (.c (.pv (.int .i64 (0)))), (some (263, true)), 36028797018963967⟩,
   ⟨(some 266), .pick (.t 263) (.t 265) (.c (.pv (.bool false))), none, 72057594037927935⟩,
   ⟨(some 267), .mv (.t 266), none, 144115188075855871⟩,
   ⟨(some 268), .faddr (.t 37) 65, (some (267, true)), 288230376151711743⟩,
   ⟨(some 269), .load false 1 (.t 268), (some (267, true)), 576460752303423487⟩,
   ⟨(some 270), .strlen (.t 269), (some (267, true)), 1152921504606846975⟩,
   ⟨(some 271), .bin .eql (.t 270) (.c (.pv (.int .i64 (2000)))), (some (267, true)), 2305843009213693951⟩,
   ⟨(some 272), .pick (.t 267) (.t 271) (.c (.pv (.bool false))), none, 4611686018427387903⟩,
   ⟨(some 273), .mv (.t 272), none, 9223372036854775807⟩,
   ⟨(some 274), .mv (.t 40), (some (273, true)), 18446744073709551615⟩,
   ⟨(some 275), .bin .eql (.t 274) (.c (.pv (.int .i64 (26)))), (some (273, true)), 36893488147419103231⟩,
   ⟨(some 276), .pick (.t 273) (.t 275) (.c (.pv (.bool false))), none, 73786976294838206463⟩,
   ⟨(some 41), .mv (.t 276), none, 147573952589676412927⟩] false)
 (.seq (.reg [⟨(some 277), .call (.f 15) [.c (.pv (.int .i64 (19)))], none, 0⟩,
   ⟨(some 278), .bin .eql (.t 277) (.c (.pv (.str []))), none, 1⟩,
   ⟨(some 279), .mv (.t 278), none, 3⟩,
   ⟨(some 280), .call (.f 15) [.c (.pv (.int .i64 (20)))], (some (279, true)), 7⟩,
   ⟨(some 281), .bin .eql (.t 280) (.c (.pv (.str [115, 116, 97, 99, 107, 117, 110, 100, 101, 114, 102, 108, 111, 119]))), (some (279, true)), 15⟩,
   ⟨(some 282), .pick (.t 279) (.t 281) (.c (.pv (.bool false))), none, 31⟩,
   ⟨(some 283), .mv (.t 282), none, 63⟩,
   ⟨(some 284), .call (.f 15) [.c (.pv (.int .i64 (27)))], (some (283, true)), 127⟩,
   ⟨(some 285), .bin .eql (.t 284) (.c (.pv (.str [86, 77, 101, 114, 114, 111, 114]))), (some (283, true)), 255⟩,
   ⟨(some 286), .pick (.t 283) (.t 285) (.c (.pv (.bool false))), none, 511⟩,
   ⟨(some 287), .mv (.t 286), none, 1023⟩,
   ⟨(some 288), .call (.f 15) [.c (.pv (.int .i64 (42)))], (some (287, true)), 2047⟩,
   ⟨(some 289), .bin .eql (.t 288) (.c (.pv (.str [116, 105, 109, 101, 111, 117, 116]))), (some (287, true)), 4095⟩,
   ⟨(some 290), .pick (.t 287) (.t 289) (.c (.pv (.bool false))), none, 8191⟩,
   ⟨(some 291), .mv (.t 290), none, 16383⟩,
   ⟨(some 292), .call (.f 15) [.c (.pv (.int .i64 (43)))], (some (291, true)), 32767⟩,
   ⟨(some 293), .bin .eql (.t 292) (.c (.pv (.str []))), (some (291, true)), 65535⟩,
   ⟨(some 294), .pick (.t 291) (.t 293) (.c (.pv (.bool false))), none, 131071⟩,
   ⟨(some 295), .mv (.t 294), none, 262143⟩,
   ⟨(some 296), .call (.f 15) [.c (.pv (.int .i64 (-1)))], (some (295, true)), 524287⟩,
   ⟨(some 297), .bin .eql (.t 296) (.c (.pv (.str []))), (some (295, true)), 1048575⟩,
   ⟨(some 298), .pick (.t 295) (.t 297) (.c (.pv (.bool false))), none, 2097151⟩,
   ⟨(some 299), .mv (.t 298), none, 4194303⟩,
   ⟨(some 300), .call (.f 16) [.c (.pv (.str [68, 73, 67, 84, 70, 85, 76, 76]))], (some (299, true)), 8388607⟩,
   ⟨(some 301), .bin .eql (.t 300) (.c (.pv (.int .i64 (0)))), (some (299, true)), 16777215⟩,
   ⟨(some 302), .pick (.t 299) (.t 301) (.c (.pv (.bool false))), none, 33554431⟩,
   ⟨(some 303), .mv (.t 302), none, 67108863⟩,
   ⟨(some 304), .call (.f 16) [.c (.pv (.str []))], (some (303, true)), 134217727⟩,
   ⟨(some 305), .bin .eql (.t 304) (.c (.pv (.int .i64 (0)))), (some (303, true)), 268435455⟩,
   ⟨(some 306), .pick (.t 303) (.t 305) (.c (.pv (.bool false))), none, 536870911⟩,
   ⟨(some 307), .mv (.t 306), none, 1073741823⟩,
   ⟨(some 308), .call (.f 16) [.c (.pv (.str [116, 105, 109, 101, 111, 117, 116]))], (some (307, true)), 2147483647⟩,
   ⟨(some 309), .bin .eql (.t 308) (.c (.pv (.int .i64 (42)))), (some (307, true)), 4294967295⟩,
   ⟨(some 310), .pick (.t 307) (.t 309) (.c (.pv (.bool false))), none, 8589934591⟩,
   ⟨(some 42), .mv (.t 310), none, 17179869183⟩] false)
 (.seq (.reg [⟨(some 311), .mv (.t 4), none, 0⟩,
   ⟨(some 312), .bin .eql (.t 311) (.c (.pv (.int .i64 (22)))), none, 1⟩,
   ⟨(some 313), .mv (.t 312), none, 3⟩,
   ⟨(some 314), .mv (.t 6), (some (313, true)), 7⟩,
   ⟨(some 315), .bin .eql (.t 314) (.c (.pv (.int .i64 (20)))), (some (313, true)), 15⟩,
   ⟨(some 316), .pick (.t 313) (.t 315) (.c (.pv (.bool false))), none, 31⟩,
   ⟨(some 317), .mv (.t 316), none, 63⟩,
   ⟨(some 318), .mv (.t 8), (some (317, true)), 127⟩,
   ⟨(some 319), .bin .eql (.t 318) (.c (.pv (.int .i64 (24)))), (some (317, true)), 255⟩,
   ⟨(some 320), .pick (.t 317) (.t 319) (.c (.pv (.bool false))), none, 511⟩,
   ⟨(some 321), .mv (.t 320), none, 1023⟩,
   ⟨(some 322), .faddr (.t 9) 65, (some (321, true)), 2047⟩,
   ⟨(some 323), .load false 1 (.t 322), (some (321, true)), 4095⟩,
   ⟨(some 324), .bin .eql (.t 323) (.c (.pv (.str []))), (some (321, true)), 8191⟩,
   ⟨(some 325), .pick (.t 321) (.t 324) (.c (.pv (.bool false))), none, 16383⟩,
   ⟨(some 326), .mv (.t 325), none, 32767⟩,
   ⟨(some 327), .mv (.t 12), (some (326, true)), 65535⟩,
   ⟨(some 328), .not (.t 327), (some (326, true)), 131071⟩,
   ⟨(some 329), .pick (.t 326) (.t 328) (.c (.pv (.bool false))), none, 262143⟩,
   ⟨(some 330), .mv (.t 329), none, 524287⟩,
   ⟨(some 331), .mv (.t 14), (some (330, true)), 1048575⟩,
   ⟨(some 332), .not (.t 331), (some (330, true)), 2097151⟩,
   ⟨(some 333), .pick (.t 330) (.t 332) (.c (.pv (.bool false))), none, 4194303⟩,
   ⟨(some 334), .mv (.t 333), none, 8388607⟩,
   ⟨(some 335), .mv (.t 16), (some (334, true)), 16777215⟩,
   ⟨(some 336), .bin .eql (.t 335) (.c (.pv (.int .i64 (2)))), (some (334, true)), 33554431⟩,
   ⟨(some 337), .pick (.t 334) (.t 336) (.c (.pv (.bool false))), none, 67108863⟩,
   ⟨(some 338), .mv (.t 337), none, 134217727⟩,
   ⟨(some 339), .mv (.t 18), (some (338, true)), 268435455⟩,
   ⟨(some 340), .bin .eql (.t 339) (.c (.pv (.int .i64 (2)))), (some (338, true)), 536870911⟩,
   ⟨(some 341), .pick (.t 338) (.t 340) (.c (.pv (.bool false))), none, 1073741823⟩,
   ⟨(some 342), .mv (.t 341), none, 2147483647⟩,
   ⟨(some 343), .mv (.t 21), (some (342, true)), 4294967295⟩,
   ⟨(some 344), .bin .eql (.t 343) (.c (.pv (.int .i64 (30)))), (some (342, true)), 8589934591⟩,
   ⟨(some 345), .pick (.t 342) (.t 344) (.c (.pv (.bool false))), none, 17179869183⟩,
   ⟨(some 346), .mv (.t 345), none, 34359738367⟩,
   ⟨(some 347), .mv (.t 41), (some (346, true)), 68719476735⟩,
   ⟨(some 348), .pick (.t 346) (.t 347) (.c (.pv (.bool false))), none, 137438953471⟩,
   ⟨(some 349), .mv (.t 348), none, 274877906943⟩,
   ⟨(some 350), .mv (.t 42), (some (349, true)), 549755813887⟩,
   ⟨(some 351), .pick (.t 349) (.t 350) (.c (.pv (.bool false))), none, 1099511627775⟩,
   ⟨(some 0), .mv (.t 351), none, 2199023255551⟩] false)
 (.ret))))))))))))))))))))))))))))))))))⟩
def c4 : RFn := ⟨0, 130, [.tmp 0],
 .seq (.reg [⟨(some 0), .mv (.c (.pv (.bool false))), none, 0⟩] false)
 (.seq (.reg [⟨(some 15), .call (.f 6) [.c (.pv (.int .i64 (1)))], none, 0⟩,
   ⟨(some 16), .call (.f 7) [.c (.pv (.str [97, 100, 100]))], none, 1⟩,
   ⟨(some 17), .call (.f 7) [.c (.pv (.str [116, 121, 112, 101, 99, 104, 101, 99, 107]))], none, 3⟩,
   ⟨(some 18), .bsl 7 3 [.pv (.int .i64 (0)), .pv (.bool false), .pv (.int .i64 (0)), .pv (.str []), .pv (.int .i64 (0)), .pv (.int .i64 (0)), .pv (.int .i64 (0))] [(0, .t 15), (1, .t 16), (2, .t 17)], none, 7⟩,
   ⟨(some 19), .call (.f 5) [.t 18], none, 15⟩,
   ⟨(some 14), .mv (.t 19), none, 31⟩,
   ⟨(some 20), .extract (.t 14) 0, none, 63⟩,
   ⟨(some 21), .extract (.t 14) 1, none, 63⟩,
   ⟨(some 1), .alloc [.emp 7, .emp 7, .emp 7, .emp 3, .pv (.int .i64 (0)), .pv (.int .i64 (0)), .pv (.int .i64 (0)), .pv (.int .i64 (0)), .pv (.int .i64 (0)), .pv (.int .i64 (0)), .pv (.int .i64 (0)), .emp 7, .pv (.int .i64 (0)), .pv (.int .i64 (0)), .pv (.int .i64 (0)), .pv (.int .i64 (0)), .pv (.int .i64 (0)), .pv (.int .i64 (0)), .pv (.int .i64 (0)), .pv (.int .i64 (0)), .pv (.int .i64 (0)), .pv (.int .i64 (0)), .pv (.int .i64 (0)), .pv (.int .i64 (0)), .pv (.int .i64 (0)), .pv (.int .i64 (0)), .pv (.int .i64 (0)), .pv (.int .i64 (0)), .pv (.int .i64 (0)), .pv (.int .i64 (0)), .pv (.int .i64 (0)), .pv (.int .i64 (0)), .pv (.bool false), .pv (.bool false), .emp 47, .pv (.int .i64 (0)), .pv (.int .i64 (0)), .pv (.int .i64 (0)), .pv (.int .i64 (0)), .pv (.int .i64 (0)), .pv (.int .i64 (0)), .pv (.int .i64 (0)), .pv (.int .i64 (0)), .emp 1, .pv (.int .i64 (0)), .pv (.int .i64 (0)), .emp 2, .pv (.int .i64 (0)), .pv (.bool false), .pv (.int .i64 (0)), .pv (.str []), .pv (.int .i64 (0)), .pv (.int .i64 (0)), .pv (.int .i64 (0)), .pv (.int .i64 (0)), .pv (.int .i64 (0)), .pv (.int .i64 (0)), .pv (.int .i64 (0)), .pv (.int .i64 (0)), .pv (.int .i64 (0)), .pv (.int .i64 (0)), .pv (.int .i64 (0)), .emp 57, .emp 47, .emp 3, .pv (.str []), .pv (.int .i64 (0))], none, 0⟩,
   ⟨none, .store 67 (.t 1) (.t 20), none, 383⟩,
   ⟨(some 2), .mv (.t 21), none, 1023⟩] false)
 (.seq (.seq (.reg [⟨(some 22), .mv (.t 2), none, 0⟩,
   ⟨(some 23), .not (.t 22), none, 1⟩,
   ⟨(some 24), .mv (.t 23), none, 3⟩,
   ⟨(some 25), .faddr (.t 1) 2, (some (24, false)), 7⟩,
   ⟨(some 26), .load false 1 (.t 25), (some (24, false)), 15⟩,
   ⟨(some 27), .call (.f 17) [.t 26], (some (24, false)), 31⟩,
   ⟨(some 28), .bin .neq (.t 27) (.c (.pv (.int .i64 (0)))), (some (24, false)), 63⟩,
   ⟨(some 29), .pick (.t 24) (.c (.pv (.bool true))) (.t 28), none, 127⟩] false)
 (.cond (.t 29)
  (.seq (.reg [⟨(some 0), .mv (.c (.pv (.bool false))), none, 0⟩] false)
  (.ret))
  (.skip)))
 (.seq (.reg [⟨(some 31), .load true 67 (.t 1), none, 0⟩,
   ⟨(some 32), .call (.f 9) [.t 31, .c (.pv (.int .i64 (22)))], none, 1⟩,
   ⟨(some 30), .mv (.t 32), none, 3⟩,
   ⟨(some 33), .extract (.t 30) 0, none, 7⟩,
   ⟨(some 34), .extract (.t 30) 1, none, 7⟩,
   ⟨(some 3), .alloc [.pv (.int .i64 (0)), .pv (.bool false), .pv (.int .i64 (0)), .pv (.str []), .pv (.int .i64 (0)), .pv (.int .i64 (0)), .pv (.int .i64 (0))], none, 0⟩,
   ⟨none, .store 7 (.t 3) (.t 33), none, 47⟩,
   ⟨(some 4), .mv (.t 34), none, 127⟩] false)
 (.seq (.reg [⟨(some 36), .faddr (.t 1) 2, none, 0⟩,
   ⟨(some 37), .load false 1 (.t 36), none, 1⟩,
   ⟨(some 38), .load true 7 (.t 3), none, 0⟩,
   ⟨(some 39), .call (.f 18) [.t 37, .t 38], none, 7⟩,
   ⟨(some 35), .mv (.t 39), none, 15⟩,
   ⟨(some 40), .extract (.t 35) 0, none, 31⟩,
   ⟨(some 41), .extract (.t 35) 1, none, 31⟩,
   ⟨(some 5), .mv (.t 40), none, 63⟩,
   ⟨(some 6), .mv (.t 41), none, 255⟩] false)
 (.seq (.reg [⟨(some 43), .load true 67 (.t 1), none, 0⟩,
   ⟨(some 44), .call (.f 8) [.t 43, .c (.pv (.str [46, 114, 101, 99, 111, 114, 100]))], none, 1⟩,
   ⟨(some 42), .mv (.t 44), none, 3⟩,
   ⟨(some 45), .extract (.t 42) 0, none, 7⟩,
   ⟨(some 46), .extract (.t 42) 1, none, 7⟩,
   ⟨(some 7), .alloc [.emp 7, .emp 7, .emp 7, .emp 3, .pv (.int .i64 (0)), .pv (.int .i64 (0)), .pv (.int .i64 (0)), .pv (.int .i64 (0)), .pv (.int .i64 (0)), .pv (.int .i64 (0)), .pv (.int .i64 (0)), .emp 7, .pv (.int .i64 (0)), .pv (.int .i64 (0)), .pv (.int .i64 (0)), .pv (.int .i64 (0)), .pv (.int .i64 (0)), .pv (.int .i64 (0)), .pv (.int .i64 (0)), .pv (.int .i64 (0)), .pv (.int .i64 (0)), .pv (.int .i64 (0)), .pv (.int .i64 (0)), .pv (.int .i64 (0)), .pv (.int .i64 (0)), .pv (.int .i64 (0)), .pv (.int .i64 (0)), .pv (.int .i64 (0)), .pv (.int .i64 (0)), .pv (.int .i64 (0)), .pv (.int .i64 (0)), .pv (.int .i64 (0)), .pv (.bool false), .pv (.bool false), .emp 47, .pv (.int .i64 (0)), .pv (.int .i64 (0)), .pv (.int .i64 (0)), .pv (.int .i64 (0)), .pv (.int .i64 (0)), .pv (.int .i64 (0)), .pv (.int .i64 (0)), .pv (.int .i64 (0)), .emp 1, .pv (.int .i64 (0)), .pv (.int .i64 (0)), .emp 2, .pv (.int .i64 (0)), .pv (.bool false), .pv (.int .i64 (0)), .pv (.str []), .pv (.int .i64 (0)), .pv (.int .i64 (0)), .pv (.int .i64 (0)), .pv (.int .i64 (0)), .pv (.int .i64 (0)), .pv (.int .i64 (0)), .pv (.int .i64 (0)), .pv (.int .i64 (0)), .pv (.int .i64 (0)), .pv (.int .i64 (0)), .pv (.int .i64 (0)), .emp 57, .emp 47, .emp 3, .pv (.str []), .pv (.int .i64 (0))], none, 0⟩,
   ⟨none, .store 67 (.t 7) (.t 45), none, 47⟩,
   ⟨(some 8), .mv (.t 46), none, 127⟩] false)
 (.seq (.reg [⟨(some 48), .load true 67 (.t 7), none, 0⟩,
   ⟨(some 49), .call (.f 8) [.t 48, .c (.pv (.str [104, 97, 110, 100, 108, 101, 101, 114, 114, 111, 114]))], none, 1⟩,
   ⟨(some 47), .mv (.t 49), none, 3⟩,
   ⟨(some 50), .extract (.t 47) 0, none, 7⟩,
   ⟨(some 51), .extract (.t 47) 1, none, 7⟩,
   ⟨(some 9), .alloc [.emp 7, .emp 7, .emp 7, .emp 3, .pv (.int .i64 (0)), .pv (.int .i64 (0)), .pv (.int .i64 (0)), .pv (.int .i64 (0)), .pv (.int .i64 (0)), .pv (.int .i64 (0)), .pv (.int .i64 (0)), .emp 7, .pv (.int .i64 (0)), .pv (.int .i64 (0)), .pv (.int .i64 (0)), .pv (.int .i64 (0)), .pv (.int .i64 (0)), .pv (.int .i64 (0)), .pv (.int .i64 (0)), .pv (.int .i64 (0)), .pv (.int .i64 (0)), .pv (.int .i64 (0)), .pv (.int .i64 (0)), .pv (.int .i64 (0)), .pv (.int .i64 (0)), .pv (.int .i64 (0)), .pv (.int .i64 (0)), .pv (.int .i64 (0)), .pv (.int .i64 (0)), .pv (.int .i64 (0)), .pv (.int .i64 (0)), .pv (.int .i64 (0)), .pv (.bool false), .pv (.bool false), .emp 47, .pv (.int .i64 (0)), .pv (.int .i64 (0)), .pv (.int .i64 (0)), .pv (.int .i64 (0)), .pv (.int .i64 (0)), .pv (.int .i64 (0)), .pv (.int .i64 (0)), .pv (.int .i64 (0)), .emp 1, .pv (.int .i64 (0)), .pv (.int .i64 (0)), .emp 2, .pv (.int .i64 (0)), .pv (.bool false), .pv (.int .i64 (0)), .pv (.str []), .pv (.int .i64 (0)), .pv (.int .i64 (0)), .pv (.int .i64 (0)), .pv (.int .i64 (0)), .pv (.int .i64 (0)), .pv (.int .i64 (0)), .pv (.int .i64 (0)), .pv (.int .i64 (0)), .pv (.int .i64 (0)), .pv (.int .i64 (0)), .pv (.int .i64 (0)), .emp 57, .emp 47, .emp 3, .pv (.str []), .pv (.int .i64 (0))], none, 0⟩,
   ⟨none, .store 67 (.t 9) (.t 50), none, 47⟩,
   ⟨(some 10), .mv (.t 51), none, 127⟩] false)
 (.seq (.reg [⟨(some 53), .load true 67 (.t 9), none, 0⟩,
   ⟨(some 54), .call (.f 8) [.t 53, .c (.pv (.str [104, 97, 110, 100, 108, 101, 101, 114, 114, 111, 114]))], none, 1⟩,
   ⟨(some 52), .mv (.t 54), none, 3⟩,
   ⟨(some 55), .extract (.t 52) 0, none, 7⟩,
   ⟨(some 56), .extract (.t 52) 1, none, 7⟩,
   ⟨(some 11), .alloc [.emp 7, .emp 7, .emp 7, .emp 3, .pv (.int .i64 (0)), .pv (.int .i64 (0)), .pv (.int .i64 (0)), .pv (.int .i64 (0)), .pv (.int .i64 (0)), .pv (.int .i64 (0)), .pv (.int .i64 (0)), .emp 7, .pv (.int .i64 (0)), .pv (.int .i64 (0)), .pv (.int .i64 (0)), .pv (.int .i64 (0)), .pv (.int .i64 (0)), .pv (.int .i64 (0)), .pv (.int .i64 (0)), .pv (.int .i64 (0)), .pv (.int .i64 (0)), .pv (.int .i64 (0)), .pv (.int .i64 (0)), .pv (.int .i64 (0)), .pv (.int .i64 (0)), .pv (.int .i64 (0)), .pv (.int .i64 (0)), .pv (.int .i64 (0)), .pv (.int .i64 (0)), .pv (.int .i64 (0)), .pv (.int .i64 (0)), .pv (.int .i64 (0)), .pv (.bool false), .pv (.bool false), .emp 47, .pv (.int .i64 (0)), .pv (.int .i64 (0)), .pv (.int .i64 (0)), .pv (.int .i64 (0)), .pv (.int .i64 (0)), .pv (.int .i64 (0)), .pv (.int .i64 (0)), .pv (.int .i64 (0)), .emp 1, .pv (.int .i64 (0)), .pv (.int .i64 (0)), .emp 2, .pv (.int .i64 (0)), .pv (.bool false), .pv (.int .i64 (0)), .pv (.str []), .pv (.int .i64 (0)), .pv (.int .i64 (0)), .pv (.int .i64 (0)), .pv (.int .i64 (0)), .pv (.int .i64 (0)), .pv (.int .i64 (0)), .pv (.int .i64 (0)), .pv (.int .i64 (0)), .pv (.int .i64 (0)), .pv (.int .i64 (0)), .pv (.int .i64 (0)), .emp 57, .emp 47, .emp 3, .pv (.str []), .pv (.int .i64 (0))], none, 0⟩,
   ⟨none, .store 67 (.t 11) (.t 55), none, 47⟩,
   ⟨(some 12), .mv (.t 56), none, 127⟩] false)
 (.seq (.seq (.reg [⟨(some 57), .mv (.t 4), none, 0⟩,
   ⟨(some 58), .not (.t 57), none, 1⟩,
   ⟨(some 59), .mv (.t 58), none, 3⟩,
   ⟨(some 60), .mv (.t 6), (some (59, false)), 7⟩,
   ⟨(some 61), .bin .neq (.t 60) (.c (.pv (.int .i64 (0)))), (some (59, false)), 15⟩,
   ⟨(some 62), .pick (.t 59) (.c (.pv (.bool true))) (.t 61), none, 31⟩,
   ⟨(some 63), .mv (.t 62), none, 63⟩,
   ⟨(some 64), .mv (.t 5), (some (63, false)), 127⟩,
   ⟨(some 65), .slen (.t 64), (some (63, false)), 255⟩,
   ⟨(some 66), .bin .neq (.t 65) (.c (.pv (.int .i64 (3)))), (some (63, false)), 511⟩,
   ⟨(some 67), .pick (.t 63) (.c (.pv (.bool true))) (.t 66), none, 1023⟩,
   ⟨(some 68), .mv (.t 67), none, 2047⟩,
   ⟨(some 69), .mv (.t 8), (some (68, false)), 4095⟩,
   ⟨(some 70), .bin .neq (.t 69) (.c (.pv (.int .i64 (0)))), (some (68, false)), 8191⟩,
   ⟨(some 71), .pick (.t 68) (.c (.pv (.bool true))) (.t 70), none, 16383⟩,
   ⟨(some 72), .mv (.t 71), none, 32767⟩,
   ⟨(some 73), .mv (.t 10), (some (72, false)), 65535⟩,
   ⟨(some 74), .bin .neq (.t 73) (.c (.pv (.int .i64 (0)))), (some (72, false)), 131071⟩,
   ⟨(some 75), .pick (.t 72) (.c (.pv (.bool true))) (.t 74), none, 262143⟩,
   ⟨(some 76), .mv (.t 75), none, 524287⟩,
   ⟨(some 77), .mv (.t 12), (some (76, false)), 1048575⟩,
   ⟨(some 78), .bin .neq (.t 77) (.c (.pv (.int .i64 (0)))), (some (76, false)), 2097151⟩,
   ⟨(some 79), .pick (.t 76) (.c (.pv (.bool true))) (.t 78), none, 4194303⟩] false)
 (.cond (.t 79)
  (.seq (.reg [⟨(some 0), .mv (.c (.pv (.bool false))), none, 0⟩] false)
  (.ret))
  (.skip)))
 (.seq (.reg [⟨(some 13), .mv (.c (.pv (.str [37, 37, 91, 32, 69, 114, 114, 111, 114, 58, 32, 116, 121, 112, 101, 99, 104, 101, 99, 107, 59, 32, 79, 102, 102, 101, 110, 100, 105, 110, 103, 67, 111, 109, 109, 97, 110, 100, 58, 32, 97, 100, 100, 32, 93, 37, 37, 10]))), none, 0⟩] false)
 (.seq (.reg [⟨(some 80), .mv (.t 5), none, 0⟩,
   ⟨(some 81), .iaddr 7 (.t 80) (.c (.pv (.int .i64 (0)))), none, 1⟩,
   ⟨(some 82), .load true 7 (.t 81), none, 3⟩,
   ⟨(some 83), .call (.f 7) [.c (.pv (.str [116, 121, 112, 101, 99, 104, 101, 99, 107]))], none, 0⟩,
   ⟨(some 84), .eqs false [0, 1, 0, 2, 0, 0, 0] (.t 82) (.t 83), none, 15⟩,
   ⟨(some 85), .mv (.t 84), none, 31⟩,
   ⟨(some 86), .faddr (.t 7) 0, (some (85, true)), 63⟩,
   ⟨(some 87), .load false 1 (.t 86), (some (85, true)), 127⟩,
   ⟨(some 88), .call (.f 6) [.c (.pv (.int .i64 (1)))], (some (85, true)), 63⟩,
   ⟨(some 89), .bsl 7 1 [.pv (.int .i64 (0)), .pv (.bool false), .pv (.int .i64 (0)), .pv (.str []), .pv (.int .i64 (0)), .pv (.int .i64 (0)), .pv (.int .i64 (0))] [(0, .t 88)], (some (85, true)), 319⟩,
   ⟨(some 90), .call (.f 19) [.t 87, .t 89], (some (85, true)), 1023⟩,
   ⟨(some 91), .pick (.t 85) (.t 90) (.c (.pv (.bool false))), none, 2047⟩,
   ⟨(some 92), .mv (.t 91), none, 4095⟩,
   ⟨(some 93), .load true 67 (.t 7), (some (92, true)), 8191⟩,
   ⟨(some 94), .call (.f 14) [.t 93, .c (.pv (.str [101, 114, 114, 111, 114, 110, 97, 109, 101]))], (some (92, true)), 16383⟩,
   ⟨(some 95), .call (.f 7) [.c (.pv (.str [116, 121, 112, 101, 99, 104, 101, 99, 107]))], (some (92, true)), 32767⟩,
   ⟨(some 96), .eqs false [0, 1, 0, 2, 0, 0, 0] (.t 94) (.t 95), (some (92, true)), 65535⟩,
   ⟨(some 97), .pick (.t 92) (.t 96) (.c (.pv (.bool false))), none, 131071⟩,
   ⟨(some 98), .mv (.t 97), none, 262143⟩,
   ⟨(some 99), .load true 67 (.t 7), (some (98, true)), 524287⟩,
   ⟨(some 100), .call (.f 14) [.t 99, .c (.pv (.str [99, 111, 109, 109, 97, 110, 100]))], (some (98, true)), 1048575⟩,
   ⟨(some 101), .call (.f 7) [.c (.pv (.str [97, 100, 100]))], (some (98, true)), 2097151⟩,
   ⟨(some 102), .eqs false [0, 1, 0, 2, 0, 0, 0] (.t 100) (.t 101), (some (98, true)), 4194303⟩,
   ⟨(some 103), .pick (.t 98) (.t 102) (.c (.pv (.bool false))), none, 8388607⟩,
   ⟨(some 104), .mv (.t 103), none, 16777215⟩,
   ⟨(some 105), .load true 67 (.t 7), (some (104, true)), 33554431⟩,
   ⟨(some 106), .call (.f 14) [.t 105, .c (.pv (.str [110, 101, 119, 101, 114, 114, 111, 114]))], (some (104, true)), 67108863⟩,
   ⟨(some 107), .build [.pv (.int .i64 (0)), .pv (.bool false), .pv (.int .i64 (0)), .pv (.str []), .pv (.int .i64 (0)), .pv (.int .i64 (0)), .pv (.int .i64 (0))] [(0, 1, .c (.pv (.int .i64 (2)))), (2, 1, .c (.pv (.int .i64 (1))))], (some (104, true)), 33554431⟩,
   ⟨(some 108), .eqs false [0, 1, 0, 2, 0, 0, 0] (.t 106) (.t 107), (some (104, true)), 268435455⟩,
   ⟨(some 109), .pick (.t 104) (.t 108) (.c (.pv (.bool false))), none, 536870911⟩,
   ⟨(some 110), .mv (.t 109), none, 1073741823⟩,
   ⟨(some 111), .faddr (.t 9) 65, (some (110, true)), 2147483647⟩,
   ⟨(some 112), .load false 1 (.t 111), (some (110, true)), 4294967295⟩,
   ⟨(some 113), .mv (.t 13), (some (110, true)), 2147483647⟩,
   ⟨(some 114), .bin .eql (.t 112) (.t 113), (some (110, true)), 17179869183⟩,
   ⟨(some 115), .pick (.t 110) (.t 114) (.c (.pv (.bool false))), none, 34359738367⟩,
   ⟨(some 116), .mv (.t 115), none, 68719476735⟩,
   ⟨(some 117), .faddr (.t 11) 65, (some (116, true)), 137438953471⟩,
   ⟨(some 118), .load false 1 (.t 117), (some (116, true)), 274877906943⟩,
   ⟨(some 119), .mv (.t 13), (some (116, true)), 137438953471⟩,
   ⟨(some 120), .bin .eql (.t 118) (.t 119), (some (116, true)), 1099511627775⟩,
   ⟨(some 121), .pick (.t 116) (.t 120) (.c (.pv (.bool false))), none, 2199023255551⟩,
   ⟨(some 122), .mv (.t 121), none, 4398046511103⟩,
   ⟨(some 123), .call (.f 15) [.c (.pv (.int .i64 (22)))], (some (122, true)), 8796093022207⟩,
   ⟨(some 124), .bin .eql (.t 123) (.c (.pv (.str [116, 121, 112, 101, 99, 104, 101, 99, 107]))), (some (122, true)), 17592186044415⟩,
   ⟨(some 125), .pick (.t 122) (.t 124) (.c (.pv (.bool false))), none, 35184372088831⟩,
   ⟨(some 126), .mv (.t 125), none, 70368744177663⟩,
   ⟨(some 127), .call (.f 16) [.c (.pv (.str [100, 105, 99, 116, 102, 117, 108, 108]))], (some (126, true)), 140737488355327⟩,
   ⟨(some 128), .bin .eql (.t 127) (.c (.pv (.int .i64 (30)))), (some (126, true)), 281474976710655⟩,
   ⟨(some 129), .pick (.t 126) (.t 128) (.c (.pv (.bool false))), none, 562949953421311⟩,
   ⟨(some 0), .mv (.t 129), none, 1125899906842623⟩] true)
 (.ret)))))))))))⟩
def c5 : RFn := ⟨1, 24, [.cell 2 true 67, .tmp 3],
 .seq (.reg [⟨(some 2), .alloc [.emp 7, .emp 7, .emp 7, .emp 3, .pv (.int .i64 (0)), .pv (.int .i64 (0)), .pv (.int .i64 (0)), .pv (.int .i64 (0)), .pv (.int .i64 (0)), .pv (.int .i64 (0)), .pv (.int .i64 (0)), .emp 7, .pv (.int .i64 (0)), .pv (.int .i64 (0)), .pv (.int .i64 (0)), .pv (.int .i64 (0)), .pv (.int .i64 (0)), .pv (.int .i64 (0)), .pv (.int .i64 (0)), .pv (.int .i64 (0)), .pv (.int .i64 (0)), .pv (.int .i64 (0)), .pv (.int .i64 (0)), .pv (.int .i64 (0)), .pv (.int .i64 (0)), .pv (.int .i64 (0)), .pv (.int .i64 (0)), .pv (.int .i64 (0)), .pv (.int .i64 (0)), .pv (.int .i64 (0)), .pv (.int .i64 (0)), .pv (.int .i64 (0)), .pv (.bool false), .pv (.bool false), .emp 47, .pv (.int .i64 (0)), .pv (.int .i64 (0)), .pv (.int .i64 (0)), .pv (.int .i64 (0)), .pv (.int .i64 (0)), .pv (.int .i64 (0)), .pv (.int .i64 (0)), .pv (.int .i64 (0)), .emp 1, .pv (.int .i64 (0)), .pv (.int .i64 (0)), .emp 2, .pv (.int .i64 (0)), .pv (.bool false), .pv (.int .i64 (0)), .pv (.str []), .pv (.int .i64 (0)), .pv (.int .i64 (0)), .pv (.int .i64 (0)), .pv (.int .i64 (0)), .pv (.int .i64 (0)), .pv (.int .i64 (0)), .pv (.int .i64 (0)), .pv (.int .i64 (0)), .pv (.int .i64 (0)), .pv (.int .i64 (0)), .pv (.int .i64 (0)), .emp 57, .emp 47, .emp 3, .pv (.str []), .pv (.int .i64 (0))], none, 0⟩,
   ⟨(some 3), .mv (.c (.pv (.bool false))), none, 0⟩] false)
 (.seq (.reg [⟨(some 7), .call (.f 11) [.c (.emp 1)], none, 0⟩,
   ⟨(some 8), .call (.f 10) [.t 7], none, 1⟩,
   ⟨(some 6), .mv (.t 8), none, 3⟩,
   ⟨(some 9), .extract (.t 6) 0, none, 7⟩,
   ⟨(some 10), .extract (.t 6) 1, none, 7⟩,
   ⟨(some 4), .mv (.t 9), none, 15⟩,
   ⟨(some 5), .mv (.t 10), none, 63⟩] false)
 (.seq (.reg [⟨(some 11), .mv (.t 4), none, 0⟩,
   ⟨(some 12), .call (.f 20) [.c (.pv (.int .i64 (0)))], none, 0⟩,
   ⟨(some 13), .call (.f 20) [.c (.pv (.int .i64 (1)))], none, 2⟩,
   ⟨(some 14), .bsl 7 2 [.pv (.int .i64 (0)), .pv (.bool false), .pv (.int .i64 (0)), .pv (.str []), .pv (.int .i64 (0)), .pv (.int .i64 (0)), .pv (.int .i64 (0))] [(0, .t 12), (1, .t 13)], none, 6⟩,
   ⟨(some 15), .mv (.t 0), none, 0⟩,
   ⟨(some 16), .build [.emp 7, .emp 7, .emp 7, .emp 3, .pv (.int .i64 (0)), .pv (.int .i64 (0)), .pv (.int .i64 (0)), .pv (.int .i64 (0)), .pv (.int .i64 (0)), .pv (.int .i64 (0)), .pv (.int .i64 (0)), .emp 7, .pv (.int .i64 (0)), .pv (.int .i64 (0)), .pv (.int .i64 (0)), .pv (.int .i64 (0)), .pv (.int .i64 (0)), .pv (.int .i64 (0)), .pv (.int .i64 (0)), .pv (.int .i64 (0)), .pv (.int .i64 (0)), .pv (.int .i64 (0)), .pv (.int .i64 (0)), .pv (.int .i64 (0)), .pv (.int .i64 (0)), .pv (.int .i64 (0)), .pv (.int .i64 (0)), .pv (.int .i64 (0)), .pv (.int .i64 (0)), .pv (.int .i64 (0)), .pv (.int .i64 (0)), .pv (.int .i64 (0)), .pv (.bool false), .pv (.bool false), .emp 47, .pv (.int .i64 (0)), .pv (.int .i64 (0)), .pv (.int .i64 (0)), .pv (.int .i64 (0)), .pv (.int .i64 (0)), .pv (.int .i64 (0)), .pv (.int .i64 (0)), .pv (.int .i64 (0)), .emp 1, .pv (.int .i64 (0)), .pv (.int .i64 (0)), .emp 2, .pv (.int .i64 (0)), .pv (.bool false), .pv (.int .i64 (0)), .pv (.str []), .pv (.int .i64 (0)), .pv (.int .i64 (0)), .pv (.int .i64 (0)), .pv (.int .i64 (0)), .pv (.int .i64 (0)), .pv (.int .i64 (0)), .pv (.int .i64 (0)), .pv (.int .i64 (0)), .pv (.int .i64 (0)), .pv (.int .i64 (0)), .pv (.int .i64 (0)), .emp 57, .emp 47, .emp 3, .pv (.str []), .pv (.int .i64 (0))] [(2, 1, .t 11), (1, 1, .t 14), (0, 1, .t 15)], none, 31⟩,
   ⟨(some 17), .mv (.t 5), none, 0⟩,
   ⟨(some 18), .bin .eql (.t 17) (.c (.pv (.int .i64 (0)))), none, 64⟩,
   ⟨(some 19), .mv (.t 18), none, 198⟩,
   ⟨(some 20), .mv (.t 4), (some (19, true)), 454⟩,
   ⟨(some 21), .slen (.t 20), (some (19, true)), 966⟩,
   ⟨(some 22), .bin .gtr (.t 21) (.c (.pv (.int .i64 (10)))), (some (19, true)), 1990⟩,
   ⟨(some 23), .pick (.t 19) (.t 22) (.c (.pv (.bool false))), none, 4038⟩,
   ⟨none, .store 67 (.t 2) (.t 16), none, 511⟩,
   ⟨(some 3), .mv (.t 23), none, 16383⟩] false)
 (.ret)))⟩
def c6 : RFn := ⟨1, 5, [.cell 2 true 7],
 .seq (.reg [⟨(some 2), .alloc [.pv (.int .i64 (0)), .pv (.bool false), .pv (.int .i64 (0)), .pv (.str []), .pv (.int .i64 (0)), .pv (.int .i64 (0)), .pv (.int .i64 (0))], none, 0⟩] false)
 (.seq (.reg [⟨(some 3), .mv (.t 0), none, 0⟩,
   ⟨(some 4), .build [.pv (.int .i64 (0)), .pv (.bool false), .pv (.int .i64 (0)), .pv (.str []), .pv (.int .i64 (0)), .pv (.int .i64 (0)), .pv (.int .i64 (0))] [(0, 1, .c (.pv (.int .i64 (3)))), (2, 1, .t 3)], none, 1⟩,
   ⟨none, .store 7 (.t 2) (.t 4), none, 3⟩] false)
 (.ret))⟩
def c7 : RFn := ⟨1, 5, [.cell 2 true 7],
 .seq (.reg [⟨(some 2), .alloc [.pv (.int .i64 (0)), .pv (.bool false), .pv (.int .i64 (0)), .pv (.str []), .pv (.int .i64 (0)), .pv (.int .i64 (0)), .pv (.int .i64 (0))], none, 0⟩] false)
 (.seq (.reg [⟨(some 3), .mv (.t 0), none, 0⟩,
   ⟨(some 4), .build [.pv (.int .i64 (0)), .pv (.bool false), .pv (.int .i64 (0)), .pv (.str []), .pv (.int .i64 (0)), .pv (.int .i64 (0)), .pv (.int .i64 (0))] [(0, 1, .c (.pv (.int .i64 (5)))), (3, 1, .t 3)], none, 1⟩,
   ⟨none, .store 7 (.t 2) (.t 4), none, 3⟩] false)
 (.ret))⟩
def c8 : RFn := ⟨2, 26, [.cell 4 true 67, .tmp 5],
 .seq (.reg [⟨(some 2), .box 67 (.t 0), none, 0⟩,
   ⟨(some 4), .alloc [.emp 7, .emp 7, .emp 7, .emp 3, .pv (.int .i64 (0)), .pv (.int .i64 (0)), .pv (.int .i64 (0)), .pv (.int .i64 (0)), .pv (.int .i64 (0)), .pv (.int .i64 (0)), .pv (.int .i64 (0)), .emp 7, .pv (.int .i64 (0)), .pv (.int .i64 (0)), .pv (.int .i64 (0)), .pv (.int .i64 (0)), .pv (.int .i64 (0)), .pv (.int .i64 (0)), .pv (.int .i64 (0)), .pv (.int .i64 (0)), .pv (.int .i64 (0)), .pv (.int .i64 (0)), .pv (.int .i64 (0)), .pv (.int .i64 (0)), .pv (.int .i64 (0)), .pv (.int .i64 (0)), .pv (.int .i64 (0)), .pv (.int .i64 (0)), .pv (.int .i64 (0)), .pv (.int .i64 (0)), .pv (.int .i64 (0)), .pv (.int .i64 (0)), .pv (.bool false), .pv (.bool false), .emp 47, .pv (.int .i64 (0)), .pv (.int .i64 (0)), .pv (.int .i64 (0)), .pv (.int .i64 (0)), .pv (.int .i64 (0)), .pv (.int .i64 (0)), .pv (.int .i64 (0)), .pv (.int .i64 (0)), .emp 1, .pv (.int .i64 (0)), .pv (.int .i64 (0)), .emp 2, .pv (.int .i64 (0)), .pv (.bool false), .pv (.int .i64 (0)), .pv (.str []), .pv (.int .i64 (0)), .pv (.int .i64 (0)), .pv (.int .i64 (0)), .pv (.int .i64 (0)), .pv (.int .i64 (0)), .pv (.int .i64 (0)), .pv (.int .i64 (0)), .pv (.int .i64 (0)), .pv (.int .i64 (0)), .pv (.int .i64 (0)), .pv (.int .i64 (0)), .emp 57, .emp 47, .emp 3, .pv (.str []), .pv (.int .i64 (0))], none, 0⟩,
   ⟨(some 5), .mv (.c (.pv (.int .i64 (0)))), none, 0⟩] false)
 (.seq (.reg [⟨(some 9), .mkmap, none, 0⟩,
   ⟨none, .insert (.t 9) (.c (.pv (.str [46, 114, 101, 99, 111, 114, 100]))) (.f 21), none, 1⟩,
   ⟨none, .insert (.t 9) (.c (.pv (.str [104, 97, 110, 100, 108, 101, 101, 114, 114, 111, 114]))) (.f 22), none, 1⟩,
   ⟨(some 10), .mv (.t 9), none, 7⟩,
   ⟨(some 6), .mv (.t 10), none, 15⟩] false)
 (.seq (.reg [⟨(some 12), .mv (.t 6), none, 0⟩,
   ⟨(some 13), .mv (.t 1), none, 0⟩,
   ⟨(some 14), .lookup (.t 12) (.t 13) (.pv .nilFunc), none, 3⟩,
   ⟨(some 11), .mv (.t 14), none, 7⟩,
   ⟨(some 15), .extract (.t 11) 0, none, 15⟩,
   ⟨(some 16), .extract (.t 11) 1, none, 15⟩,
   ⟨(some 7), .mv (.t 15), none, 31⟩,
   ⟨(some 8), .mv (.t 16), none, 127⟩] false)
 (.seq (.seq (.reg [⟨(some 17), .mv (.t 8), none, 0⟩,
   ⟨(some 18), .not (.t 17), none, 1⟩] false)
 (.cond (.t 18)
  (.seq (.reg [⟨(some 19), .load true 67 (.t 2), none, 0⟩,
    ⟨none, .store 67 (.t 4) (.t 19), none, 1⟩,
    ⟨(some 5), .mv (.c (.pv (.int .i64 (24)))), none, 3⟩] false)
  (.ret))
  (.skip)))
 (.seq (.reg [⟨(some 20), .mv (.t 7), none, 0⟩,
   ⟨(some 21), .load true 67 (.t 2), none, 0⟩,
   ⟨(some 22), .build [.emp 7, .emp 7, .emp 7, .emp 3, .pv (.int .i64 (0)), .pv (.int .i64 (0)), .pv (.int .i64 (0)), .pv (.int .i64 (0)), .pv (.int .i64 (0)), .pv (.int .i64 (0)), .pv (.int .i64 (0)), .emp 7, .pv (.int .i64 (0)), .pv (.int .i64 (0)), .pv (.int .i64 (0)), .pv (.int .i64 (0)), .pv (.int .i64 (0)), .pv (.int .i64 (0)), .pv (.int .i64 (0)), .pv (.int .i64 (0)), .pv (.int .i64 (0)), .pv (.int .i64 (0)), .pv (.int .i64 (0)), .pv (.int .i64 (0)), .pv (.int .i64 (0)), .pv (.int .i64 (0)), .pv (.int .i64 (0)), .pv (.int .i64 (0)), .pv (.int .i64 (0)), .pv (.int .i64 (0)), .pv (.int .i64 (0)), .pv (.int .i64 (0)), .pv (.bool false), .pv (.bool false), .emp 47, .pv (.int .i64 (0)), .pv (.int .i64 (0)), .pv (.int .i64 (0)), .pv (.int .i64 (0)), .pv (.int .i64 (0)), .pv (.int .i64 (0)), .pv (.int .i64 (0)), .pv (.int .i64 (0)), .emp 1, .pv (.int .i64 (0)), .pv (.int .i64 (0)), .emp 2, .pv (.int .i64 (0)), .pv (.bool false), .pv (.int .i64 (0)), .pv (.str []), .pv (.int .i64 (0)), .pv (.int .i64 (0)), .pv (.int .i64 (0)), .pv (.int .i64 (0)), .pv (.int .i64 (0)), .pv (.int .i64 (0)), .pv (.int .i64 (0)), .pv (.int .i64 (0)), .pv (.int .i64 (0)), .pv (.int .i64 (0)), .pv (.int .i64 (0)), .emp 57, .emp 47, .emp 3, .pv (.str []), .pv (.int .i64 (0))] [(0, 67, .t 21)], none, 2⟩,
   ⟨(some 23), .call (.t 20) [.t 22], none, 7⟩,
   ⟨(some 24), .extract (.t 23) 0, none, 15⟩,
   ⟨(some 25), .extract (.t 23) 1, none, 15⟩,
   ⟨none, .store 67 (.t 4) (.t 24), none, 63⟩,
   ⟨(some 5), .mv (.t 25), none, 127⟩] false)
 (.ret)))))⟩
def c9 : RFn := ⟨2, 34, [.cell 4 true 7, .tmp 5],
 .seq (.reg [⟨(some 2), .box 67 (.t 0), none, 0⟩,
   ⟨(some 4), .alloc [.pv (.int .i64 (0)), .pv (.bool false), .pv (.int .i64 (0)), .pv (.str []), .pv (.int .i64 (0)), .pv (.int .i64 (0)), .pv (.int .i64 (0))], none, 0⟩,
   ⟨(some 5), .mv (.c (.pv (.bool false))), none, 0⟩] false)
 (.seq (.reg [⟨(some 10), .mv (.t 1), none, 0⟩,
   ⟨(some 11), .call (.f 15) [.t 10], none, 1⟩,
   ⟨(some 6), .mv (.t 11), none, 3⟩] false)
 (.seq (.seq (.reg [⟨(some 12), .mv (.t 6), none, 0⟩,
   ⟨(some 13), .bin .eql (.t 12) (.c (.pv (.str []))), none, 1⟩,
   ⟨(some 14), .mv (.t 13), none, 3⟩,
   ⟨(some 15), .mv (.t 1), (some (14, false)), 7⟩,
   ⟨(some 16), .bin .eql (.t 15) (.c (.pv (.int .i64 (42)))), (some (14, false)), 15⟩,
   ⟨(some 17), .pick (.t 14) (.c (.pv (.bool true))) (.t 16), none, 31⟩] false)
 (.cond (.t 17)
  (.seq (.reg [⟨(some 18), .build [.pv (.int .i64 (0)), .pv (.bool false), .pv (.int .i64 (0)), .pv (.str []), .pv (.int .i64 (0)), .pv (.int .i64 (0)), .pv (.int .i64 (0))] [], none, 0⟩,
    ⟨none, .store 7 (.t 4) (.t 18), none, 1⟩,
    ⟨(some 5), .mv (.c (.pv (.bool false))), none, 3⟩] false)
  (.ret))
  (.skip)))
 (.seq (.reg [⟨(some 20), .faddr (.t 2) 2, none, 0⟩,
   ⟨(some 21), .load false 1 (.t 20), none, 1⟩,
   ⟨(some 22), .call (.f 24) [.c (.pv (.int .i64 (2)))], none, 0⟩,
   ⟨(some 23), .mv (.t 6), none, 0⟩,
   ⟨(some 24), .call (.f 25) [.t 23], none, 12⟩,
   ⟨(some 25), .call (.f 23) [.t 21, .t 22, .t 24], none, 31⟩,
   ⟨(some 19), .mv (.t 25), none, 63⟩,
   ⟨(some 26), .extract (.t 19) 0, none, 127⟩,
   ⟨(some 27), .extract (.t 19) 1, none, 127⟩,
   ⟨(some 28), .extract (.t 19) 2, none, 127⟩,
   ⟨(some 7), .alloc [.pv (.int .i64 (0)), .pv (.bool false), .pv (.int .i64 (0)), .pv (.str []), .pv (.int .i64 (0)), .pv (.int .i64 (0)), .pv (.int .i64 (0))], none, 0⟩,
   ⟨none, .store 7 (.t 7) (.t 26), none, 1279⟩,
   ⟨(some 8), .mv (.t 27), none, 3583⟩,
   ⟨(some 9), .mv (.t 28), none, 8191⟩] true)
 (.seq (.seq (.reg [⟨(some 29), .mv (.t 9), none, 0⟩,
   ⟨(some 30), .bin .neq (.t 29) (.c (.pv (.int .i64 (0)))), none, 1⟩] false)
 (.cond (.t 30)
  (.seq (.reg [⟨(some 31), .build [.pv (.int .i64 (0)), .pv (.bool false), .pv (.int .i64 (0)), .pv (.str []), .pv (.int .i64 (0)), .pv (.int .i64 (0)), .pv (.int .i64 (0))] [], none, 0⟩,
    ⟨none, .store 7 (.t 4) (.t 31), none, 1⟩,
    ⟨(some 5), .mv (.c (.pv (.bool false))), none, 3⟩] false)
  (.ret))
  (.skip)))
 (.seq (.reg [⟨(some 32), .load true 7 (.t 7), none, 0⟩,
   ⟨(some 33), .mv (.t 8), none, 0⟩,
   ⟨none, .store 7 (.t 4) (.t 32), none, 1⟩,
   ⟨(some 5), .mv (.t 33), none, 7⟩] false)
 (.ret))))))⟩
def c10 : RFn := ⟨1, 61, [.tmp 2, .tmp 3],
 .seq (.reg [⟨(some 2), .mv (.c (.emp 7)), none, 0⟩,
   ⟨(some 3), .mv (.c (.pv (.int .i64 (0)))), none, 1⟩] false)
 (.seq (.seq (.reg [⟨(some 9), .mv (.t 0), none, 0⟩,
   ⟨(some 10), .call (.f 24) [.c (.pv (.int .i64 (2)))], none, 0⟩,
   ⟨(some 11), .call (.f 26) [.t 9, .t 10], none, 3⟩,
   ⟨(some 12), .not (.t 11), none, 7⟩,
   ⟨(some 13), .mv (.t 12), none, 15⟩,
   ⟨(some 14), .mv (.t 0), (some (13, false)), 31⟩,
   ⟨(some 15), .call (.f 24) [.c (.pv (.int .i64 (3)))], (some (13, false)), 31⟩,
   ⟨(some 16), .call (.f 26) [.t 14, .t 15], (some (13, false)), 127⟩,
   ⟨(some 17), .not (.t 16), (some (13, false)), 255⟩,
   ⟨(some 18), .pick (.t 13) (.c (.pv (.bool true))) (.t 17), none, 511⟩] false)
 (.cond (.t 18)
  (.seq (.reg [⟨(some 2), .mv (.c (.emp 7)), none, 0⟩,
    ⟨(some 3), .mv (.c (.pv (.int .i64 (2)))), none, 1⟩] false)
  (.ret))
  (.skip)))
 (.seq (.seq (.reg [⟨(some 19), .call (.f 27) [], none, 0⟩,
   ⟨(some 20), .mv (.c (.pv (.int .i64 (0)))), none, 0⟩] false)
 (.block 0
  (.loop [0, 19, 20]
   (.seq (.reg [⟨(some 21), .bin .lss (.t 20) (.c (.pv (.int .i64 (23)))), none, 0⟩] false)
   (.seq (.cond (.t 21)
    (.skip)
    (.exit 0))
   (.seq (.block 1
    (.seq (.reg [⟨(some 22), .mv (.t 20), none, 0⟩,
      ⟨(some 23), .index false 23 1 (.t 19) (.t 20), none, 0⟩,
      ⟨(some 4), .mv (.t 22), none, 3⟩,
      ⟨(some 5), .mv (.t 23), none, 7⟩] false)
    (.seq (.seq (.reg [⟨(some 24), .mv (.t 4), none, 0⟩,
      ⟨(some 25), .bin .add (.c (.pv (.int .i64 (20)))) (.t 24), none, 1⟩,
      ⟨(some 26), .bin .eql (.t 25) (.c (.pv (.int .i64 (42)))), none, 3⟩] false)
    (.cond (.t 26)
     (.exit 1)
     (.skip)))
    (.seq (.reg [⟨(some 28), .mv (.t 0), none, 0⟩,
      ⟨(some 29), .mv (.t 5), none, 0⟩,
      ⟨(some 30), .call (.f 25) [.t 29], none, 2⟩,
      ⟨(some 31), .call (.f 29) [.c (.pv (.str [46, 114, 101, 99, 111, 114, 100]))], none, 6⟩,
      ⟨(some 32), .call (.f 29) [.c (.pv (.str [115, 116, 111, 112]))], none, 14⟩,
      ⟨(some 33), .bsl 7 3 [.pv (.int .i64 (0)), .pv (.bool false), .pv (.int .i64 (0)), .pv (.str []), .pv (.int .i64 (0)), .pv (.int .i64 (0)), .pv (.int .i64 (0))] [(0, .t 30), (1, .t 31), (2, .t 32)], none, 30⟩,
      ⟨(some 34), .call (.f 28) [.t 28, .c (.pv (.bool true)), .t 33], none, 63⟩,
      ⟨(some 27), .mv (.t 34), none, 127⟩,
      ⟨(some 35), .extract (.t 27) 0, none, 255⟩,
      ⟨(some 36), .extract (.t 27) 1, none, 255⟩,
      ⟨(some 37), .extract (.t 27) 2, none, 255⟩,
      ⟨(some 7), .alloc [.pv (.int .i64 (0)), .pv (.bool false), .pv (.int .i64 (0)), .pv (.str []), .pv (.int .i64 (0)), .pv (.int .i64 (0)), .pv (.int .i64 (0))], none, 0⟩,
      ⟨(some 6), .mv (.t 35), none, 2559⟩,
      ⟨none, .store 7 (.t 7) (.t 36), none, 7167⟩,
      ⟨(some 8), .mv (.t 37), none, 16383⟩] false)
    (.seq (.seq (.reg [⟨(some 38), .mv (.t 8), none, 0⟩,
      ⟨(some 39), .bin .neq (.t 38) (.c (.pv (.int .i64 (0)))), none, 1⟩] false)
    (.cond (.t 39)
     (.seq (.reg [⟨(some 40), .mv (.t 8), none, 0⟩,
       ⟨(some 2), .mv (.c (.emp 7)), none, 0⟩,
       ⟨(some 3), .mv (.t 40), none, 3⟩] false)
     (.ret))
     (.skip)))
    (.seq (.reg [⟨(some 42), .mv (.t 6), none, 0⟩,
      ⟨(some 43), .call (.f 24) [.c (.pv (.int .i64 (2)))], none, 0⟩,
      ⟨(some 44), .mv (.t 5), none, 0⟩,
      ⟨(some 45), .call (.f 25) [.t 44], none, 6⟩,
      ⟨(some 46), .load true 7 (.t 7), none, 0⟩,
      ⟨(some 47), .call (.f 30) [.t 42, .t 43, .t 45, .t 46], none, 31⟩,
      ⟨(some 41), .mv (.t 47), none, 63⟩,
      ⟨(some 48), .extract (.t 41) 0, none, 127⟩,
      ⟨(some 49), .extract (.t 41) 1, none, 127⟩,
      ⟨(some 0), .mv (.t 48), none, 255⟩,
      ⟨(some 8), .mv (.t 49), none, 1023⟩] true)
    (.seq (.reg [⟨(some 50), .mv (.t 8), none, 0⟩,
      ⟨(some 51), .bin .neq (.t 50) (.c (.pv (.int .i64 (0)))), none, 1⟩] false)
    (.cond (.t 51)
     (.seq (.reg [⟨(some 52), .mv (.t 8), none, 0⟩,
       ⟨(some 2), .mv (.c (.emp 7)), none, 0⟩,
       ⟨(some 3), .mv (.t 52), none, 3⟩] false)
     (.ret))
     (.skip)))))))))
   (.reg [⟨(some 53), .bin .add (.t 20) (.c (.pv (.int .i64 (1)))), none, 0⟩,
     ⟨(some 20), .mv (.t 53), none, 1⟩] false)))))))
 (.seq (.reg [⟨(some 54), .mv (.t 0), none, 0⟩,
   ⟨(some 55), .call (.f 24) [.c (.pv (.int .i64 (3)))], none, 0⟩,
   ⟨(some 56), .call (.f 25) [.c (.pv (.str [110, 101, 119, 101, 114, 114, 111, 114]))], none, 2⟩,
   ⟨(some 57), .call (.f 31) [.c (.pv (.bool false))], none, 6⟩,
   ⟨(some 58), .call (.f 30) [.t 54, .t 55, .t 56, .t 57], none, 15⟩,
   ⟨(some 59), .extract (.t 58) 0, none, 31⟩,
   ⟨(some 60), .extract (.t 58) 1, none, 31⟩,
   ⟨(some 2), .mv (.t 59), none, 127⟩,
   ⟨(some 3), .mv (.t 60), none, 255⟩] false)
 (.ret))))⟩
def c11 : RFn := ⟨1, 89, [.tmp 2],
 .seq (.reg [⟨(some 2), .mv (.c (.emp 7)), none, 0⟩] false)
 (.seq (.reg [⟨(some 7), .call (.f 32) [.c (.pv (.int .i64 (200)))], none, 0⟩,
   ⟨(some 8), .call (.f 32) [.c (.pv (.int .i64 (50)))], none, 1⟩,
   ⟨(some 9), .call (.f 32) [.c (.pv (.int .i64 (30)))], none, 3⟩,
   ⟨(some 10), .call (.f 32) [.c (.pv (.int .i64 (12)))], none, 7⟩,
   ⟨(some 11), .call (.f 32) [.c (.pv (.int .i64 (5)))], none, 15⟩,
   ⟨(some 12), .bsl 7 5 [.pv (.int .i64 (0)), .pv (.str []), .emp 7, .emp 7, .emp 7, .pv (.int .i64 (0)), .pv (.int .i64 (0))] [(0, .t 7), (1, .t 8), (2, .t 9), (3, .t 10), (4, .t 11)], none, 31⟩,
   ⟨(some 3), .mv (.t 12), none, 63⟩] false)
 (.seq (.seq (.reg [⟨(some 4), .mv (.c (.pv (.int .i64 (0)))), none, 0⟩] false)
 (.block 0
  (.loop [0, 3, 4]
   (.seq (.seq (.reg [⟨(some 13), .mv (.t 4), none, 0⟩,
     ⟨(some 14), .mv (.t 0), none, 0⟩,
     ⟨(some 15), .slen (.t 14), none, 2⟩,
     ⟨(some 16), .bin .lss (.t 13) (.t 15), none, 7⟩,
     ⟨(some 17), .mv (.t 16), none, 15⟩,
     ⟨(some 18), .mv (.t 4), (some (17, true)), 31⟩,
     ⟨(some 19), .bin .lss (.t 18) (.c (.pv (.int .i64 (200)))), (some (17, true)), 63⟩,
     ⟨(some 20), .pick (.t 17) (.t 19) (.c (.pv (.bool false))), none, 127⟩] false)
   (.cond (.t 20)
    (.skip)
    (.exit 0)))
   (.seq (.block 1
    (.seq (.reg [⟨(some 23), .mv (.t 3), none, 0⟩,
      ⟨(some 24), .mv (.t 3), none, 0⟩,
      ⟨(some 25), .iaddr 7 (.t 24) (.c (.pv (.int .i64 (0)))), none, 2⟩,
      ⟨(some 26), .faddr (.t 25) 3, none, 6⟩,
      ⟨(some 27), .load false 1 (.t 26), none, 14⟩,
      ⟨(some 28), .mv (.t 0), none, 0⟩,
      ⟨(some 29), .mv (.t 4), none, 0⟩,
      ⟨(some 30), .iaddr 1 (.t 28) (.t 29), none, 96⟩,
      ⟨(some 31), .load false 1 (.t 30), none, 224⟩,
      ⟨(some 32), .call (.f 33) [.t 31], none, 480⟩,
      ⟨(some 33), .bsl 7 1 [.pv (.int .i64 (0)), .pv (.bool false), .pv (.int .i64 (0)), .pv (.str []), .pv (.int .i64 (0)), .pv (.int .i64 (0)), .pv (.int .i64 (0))] [(0, .t 32)], none, 992⟩,
      ⟨(some 34), .append 7 64 (.t 27) (.t 33), none, 2046⟩,
      ⟨(some 35), .iaddr 7 (.t 23) (.c (.pv (.int .i64 (0)))), none, 4095⟩,
      ⟨(some 36), .faddr (.t 35) 3, none, 8191⟩,
      ⟨none, .store 1 (.t 36) (.t 34), none, 16383⟩] true)
    (.reg [⟨(some 37), .mv (.t 3), none, 0⟩,
      ⟨(some 38), .mv (.t 3), none, 0⟩,
      ⟨(some 39), .iaddr 7 (.t 38) (.c (.pv (.int .i64 (0)))), none, 2⟩,
      ⟨(some 40), .faddr (.t 39) 4, none, 6⟩,
      ⟨(some 41), .load false 1 (.t 40), none, 14⟩,
      ⟨(some 42), .mv (.t 0), none, 0⟩,
      ⟨(some 43), .mv (.t 4), none, 0⟩,
      ⟨(some 44), .iaddr 1 (.t 42) (.t 43), none, 96⟩,
      ⟨(some 45), .load false 1 (.t 44), none, 224⟩,
      ⟨(some 46), .build [.pv (.int .i64 (0)), .pv (.bool false), .pv (.int .i64 (0)), .pv (.str []), .pv (.int .i64 (0)), .pv (.int .i64 (0)), .pv (.int .i64 (0))] [(0, 1, .c (.pv (.int .i64 (10)))), (1, 1, .c (.pv (.bool true))), (3, 1, .t 45)], none, 480⟩,
      ⟨(some 47), .bsl 7 1 [.pv (.int .i64 (0)), .pv (.bool false), .pv (.int .i64 (0)), .pv (.str []), .pv (.int .i64 (0)), .pv (.int .i64 (0)), .pv (.int .i64 (0))] [(0, .t 46)], none, 992⟩,
      ⟨(some 48), .append 7 64 (.t 41) (.t 47), none, 2046⟩,
      ⟨(some 49), .iaddr 7 (.t 37) (.c (.pv (.int .i64 (0)))), none, 4095⟩,
      ⟨(some 50), .faddr (.t 49) 4, none, 8191⟩,
      ⟨none, .store 1 (.t 50) (.t 48), none, 16383⟩] true)))
   (.reg [⟨(some 21), .mv (.t 4), none, 0⟩,
     ⟨(some 22), .bin .add (.t 21) (.c (.pv (.int .i64 (1)))), none, 1⟩,
     ⟨(some 4), .mv (.t 22), none, 3⟩] false))))))
 (.seq (.reg [⟨(some 51), .call (.f 34) [], none, 0⟩,
   ⟨(some 5), .mv (.t 51), none, 1⟩] false)
 (.seq (.seq (.reg [⟨(some 6), .mv (.c (.pv (.int .i64 (0)))), none, 0⟩] false)
 (.block 2
  (.loop [3, 5, 6]
   (.seq (.seq (.reg [⟨(some 52), .mv (.t 6), none, 0⟩,
     ⟨(some 53), .mv (.t 5), none, 0⟩,
     ⟨(some 54), .slen (.t 53), none, 2⟩,
     ⟨(some 55), .bin .lss (.t 52) (.t 54), none, 7⟩] false)
   (.cond (.t 55)
    (.skip)
    (.exit 2)))
   (.seq (.block 3
    (.seq (.reg [⟨(some 58), .mv (.t 3), none, 0⟩,
      ⟨(some 59), .mv (.t 3), none, 0⟩,
      ⟨(some 60), .iaddr 7 (.t 59) (.c (.pv (.int .i64 (4)))), none, 2⟩,
      ⟨(some 61), .faddr (.t 60) 3, none, 6⟩,
      ⟨(some 62), .load false 1 (.t 61), none, 14⟩,
      ⟨(some 63), .mv (.t 5), none, 0⟩,
      ⟨(some 64), .mv (.t 6), none, 0⟩,
      ⟨(some 65), .iaddr 1 (.t 63) (.t 64), none, 96⟩,
      ⟨(some 66), .load false 1 (.t 65), none, 224⟩,
      ⟨(some 67), .call (.f 33) [.t 66], none, 480⟩,
      ⟨(some 68), .bsl 7 1 [.pv (.int .i64 (0)), .pv (.bool false), .pv (.int .i64 (0)), .pv (.str []), .pv (.int .i64 (0)), .pv (.int .i64 (0)), .pv (.int .i64 (0))] [(0, .t 67)], none, 992⟩,
      ⟨(some 69), .append 7 64 (.t 62) (.t 68), none, 2046⟩,
      ⟨(some 70), .iaddr 7 (.t 58) (.c (.pv (.int .i64 (4)))), none, 4095⟩,
      ⟨(some 71), .faddr (.t 70) 3, none, 8191⟩,
      ⟨none, .store 1 (.t 71) (.t 69), none, 16383⟩] true)
    (.seq (.reg [⟨(some 72), .mv (.t 3), none, 0⟩,
      ⟨(some 73), .mv (.t 3), none, 0⟩,
      ⟨(some 74), .iaddr 7 (.t 73) (.c (.pv (.int .i64 (4)))), none, 2⟩,
      ⟨(some 75), .faddr (.t 74) 4, none, 6⟩,
      ⟨(some 76), .load false 1 (.t 75), none, 14⟩,
      ⟨(some 77), .mv (.t 6), none, 0⟩,
      ⟨(some 78), .bin .add (.c (.pv (.int .i64 (5)))) (.t 77), none, 32⟩,
      ⟨(some 79), .build [.pv (.int .i64 (0)), .pv (.bool false), .pv (.int .i64 (0)), .pv (.str []), .pv (.int .i64 (0)), .pv (.int .i64 (0)), .pv (.int .i64 (0))] [(0, 1, .c (.pv (.int .i64 (9)))), (4, 1, .t 78)], none, 96⟩,
      ⟨(some 80), .bsl 7 1 [.pv (.int .i64 (0)), .pv (.bool false), .pv (.int .i64 (0)), .pv (.str []), .pv (.int .i64 (0)), .pv (.int .i64 (0)), .pv (.int .i64 (0))] [(0, .t 79)], none, 224⟩,
      ⟨(some 81), .append 7 64 (.t 76) (.t 80), none, 510⟩,
      ⟨(some 82), .iaddr 7 (.t 72) (.c (.pv (.int .i64 (4)))), none, 1023⟩,
      ⟨(some 83), .faddr (.t 82) 4, none, 2047⟩,
      ⟨none, .store 1 (.t 83) (.t 81), none, 4095⟩] false)
    (.reg [⟨(some 84), .mv (.t 3), none, 0⟩,
      ⟨(some 85), .call (.f 32) [.c (.pv (.int .i64 (10)))], none, 0⟩,
      ⟨(some 86), .bsl 7 1 [.pv (.int .i64 (0)), .pv (.str []), .emp 7, .emp 7, .emp 7, .pv (.int .i64 (0)), .pv (.int .i64 (0))] [(0, .t 85)], none, 2⟩,
      ⟨(some 87), .append 7 112 (.t 84) (.t 86), none, 7⟩,
      ⟨(some 3), .mv (.t 87), none, 15⟩] false))))
   (.reg [⟨(some 56), .mv (.t 6), none, 0⟩,
     ⟨(some 57), .bin .add (.t 56) (.c (.pv (.int .i64 (1)))), none, 1⟩,
     ⟨(some 6), .mv (.t 57), none, 3⟩] false))))))
 (.seq (.reg [⟨(some 88), .mv (.t 3), none, 0⟩,
   ⟨(some 2), .mv (.t 88), none, 1⟩] false)
 (.ret))))))⟩
def c12 : RFn := ⟨1, 8, [.tmp 2],
 .seq (.reg [⟨(some 2), .mv (.c (.emp 7)), none, 0⟩] false)
 (.seq (.seq (.reg [⟨(some 3), .mv (.t 0), none, 0⟩,
   ⟨(some 4), .isnil false (.t 3), none, 1⟩] false)
 (.cond (.t 4)
  (.seq (.reg [⟨(some 2), .mv (.c (.emp 7)), none, 0⟩] false)
  (.ret))
  (.skip)))
 (.seq (.reg [⟨(some 5), .bsl 7 0 [.pv (.int .i64 (0)), .pv (.str []), .emp 7, .emp 7, .emp 7, .pv (.int .i64 (0)), .pv (.int .i64 (0))] [], none, 0⟩,
   ⟨(some 6), .mv (.t 0), none, 0⟩,
   ⟨(some 7), .append 7 112 (.t 5) (.t 6), none, 3⟩,
   ⟨(some 2), .mv (.t 7), none, 7⟩] false)
 (.ret)))⟩
def c13 : RFn := ⟨1, 18, [.tmp 2],
 .seq (.reg [⟨(some 2), .mv (.c (.pv (.int .i64 (0)))), none, 0⟩] false)
 (.seq (.reg [⟨(some 3), .mv (.c (.pv (.int .i64 (0)))), none, 0⟩] false)
 (.seq (.seq (.reg [⟨(some 6), .mv (.t 0), none, 0⟩,
   ⟨(some 7), .slen (.t 6), none, 1⟩,
   ⟨(some 8), .mv (.c (.pv (.int .i64 (0)))), none, 0⟩] false)
 (.block 0
  (.loop [3, 6, 7, 8]
   (.seq (.reg [⟨(some 9), .bin .lss (.t 8) (.t 7), none, 0⟩] false)
   (.seq (.cond (.t 9)
    (.skip)
    (.exit 0))
   (.seq (.block 1
    (.seq (.reg [⟨(some 10), .iaddr 7 (.t 6) (.t 8), none, 0⟩,
      ⟨(some 11), .load true 7 (.t 10), none, 1⟩,
      ⟨(some 5), .alloc [.pv (.int .i64 (0)), .pv (.str []), .emp 7, .emp 7, .emp 7, .pv (.int .i64 (0)), .pv (.int .i64 (0))], none, 0⟩,
      ⟨none, .store 7 (.t 5) (.t 11), none, 7⟩] false)
    (.reg [⟨(some 12), .mv (.t 3), none, 0⟩,
      ⟨(some 13), .load true 7 (.t 5), none, 0⟩,
      ⟨(some 14), .call (.f 35) [.t 13], none, 2⟩,
      ⟨(some 15), .bin .add (.t 12) (.t 14), none, 7⟩,
      ⟨(some 3), .mv (.t 15), none, 15⟩] false)))
   (.reg [⟨(some 16), .bin .add (.t 8) (.c (.pv (.int .i64 (1)))), none, 0⟩,
     ⟨(some 8), .mv (.t 16), none, 1⟩] false)))))))
 (.seq (.reg [⟨(some 17), .mv (.t 3), none, 0⟩,
   ⟨(some 2), .mv (.t 17), none, 1⟩] false)
 (.ret))))⟩
def c14 : RFn := ⟨2, 19, [.cell 4 true 7],
 .seq (.reg [⟨(some 2), .box 67 (.t 0), none, 0⟩,
   ⟨(some 4), .alloc [.pv (.int .i64 (0)), .pv (.bool false), .pv (.int .i64 (0)), .pv (.str []), .pv (.int .i64 (0)), .pv (.int .i64 (0)), .pv (.int .i64 (0))], none, 0⟩] false)
 (.seq (.reg [⟨(some 9), .faddr (.t 2) 2, none, 0⟩,
   ⟨(some 10), .load false 1 (.t 9), none, 1⟩,
   ⟨(some 11), .call (.f 20) [.c (.pv (.int .i64 (3)))], none, 0⟩,
   ⟨(some 12), .mv (.t 1), none, 0⟩,
   ⟨(some 13), .call (.f 7) [.t 12], none, 12⟩,
   ⟨(some 14), .call (.f 23) [.t 10, .t 11, .t 13], none, 31⟩,
   ⟨(some 8), .mv (.t 14), none, 63⟩,
   ⟨(some 15), .extract (.t 8) 0, none, 127⟩,
   ⟨(some 16), .extract (.t 8) 1, none, 127⟩,
   ⟨(some 17), .extract (.t 8) 2, none, 127⟩,
   ⟨(some 5), .alloc [.pv (.int .i64 (0)), .pv (.bool false), .pv (.int .i64 (0)), .pv (.str []), .pv (.int .i64 (0)), .pv (.int .i64 (0)), .pv (.int .i64 (0))], none, 0⟩,
   ⟨none, .store 7 (.t 5) (.t 15), none, 1279⟩,
   ⟨(some 6), .mv (.t 16), none, 3583⟩,
   ⟨(some 7), .mv (.t 17), none, 8191⟩] true)
 (.seq (.reg [⟨(some 18), .load true 7 (.t 5), none, 0⟩,
   ⟨none, .store 7 (.t 4) (.t 18), none, 1⟩] false)
 (.ret)))⟩
def c15 : RFn := ⟨1, 13, [.tmp 2],
 .seq (.reg [⟨(some 2), .mv (.c (.pv (.str []))), none, 0⟩] false)
 (.seq (.seq (.reg [⟨(some 3), .mv (.t 0), none, 0⟩,
   ⟨(some 4), .bin .lss (.t 3) (.c (.pv (.int .i64 (20)))), none, 1⟩,
   ⟨(some 5), .mv (.t 4), none, 3⟩,
   ⟨(some 6), .mv (.t 0), (some (5, false)), 7⟩,
   ⟨(some 7), .bin .gtr (.t 6) (.c (.pv (.int .i64 (42)))), (some (5, false)), 15⟩,
   ⟨(some 8), .pick (.t 5) (.c (.pv (.bool true))) (.t 7), none, 31⟩] false)
 (.cond (.t 8)
  (.seq (.reg [⟨(some 2), .mv (.c (.pv (.str []))), none, 0⟩] false)
  (.ret))
  (.skip)))
 (.seq (.reg [⟨(some 9), .call (.f 27) [], none, 0⟩,
   ⟨(some 10), .mv (.t 0), none, 0⟩,
   ⟨(some 11), .bin .sub (.t 10) (.c (.pv (.int .i64 (20)))), none, 2⟩,
   ⟨(some 12), .index false 23 1 (.t 9) (.t 11), none, 7⟩,
   ⟨(some 2), .mv (.t 12), none, 15⟩] false)
 (.ret)))⟩
def c16 : RFn := ⟨1, 16, [.tmp 2],
 .seq (.reg [⟨(some 2), .mv (.c (.pv (.int .i64 (0)))), none, 0⟩] false)
 (.seq (.seq (.reg [⟨(some 5), .call (.f 27) [], none, 0⟩,
   ⟨(some 6), .mv (.c (.pv (.int .i64 (0)))), none, 0⟩] false)
 (.block 0
  (.loop [0, 5, 6]
   (.seq (.reg [⟨(some 7), .bin .lss (.t 6) (.c (.pv (.int .i64 (23)))), none, 0⟩] false)
   (.seq (.cond (.t 7)
    (.skip)
    (.exit 0))
   (.seq (.block 1
    (.seq (.reg [⟨(some 8), .mv (.t 6), none, 0⟩,
      ⟨(some 9), .index false 23 1 (.t 5) (.t 6), none, 0⟩,
      ⟨(some 3), .mv (.t 8), none, 3⟩,
      ⟨(some 4), .mv (.t 9), none, 7⟩] false)
    (.seq (.reg [⟨(some 10), .mv (.t 4), none, 0⟩,
      ⟨(some 11), .mv (.t 0), none, 0⟩,
      ⟨(some 12), .bin .eql (.t 10) (.t 11), none, 3⟩] false)
    (.cond (.t 12)
     (.seq (.reg [⟨(some 13), .mv (.t 3), none, 0⟩,
       ⟨(some 14), .bin .add (.c (.pv (.int .i64 (20)))) (.t 13), none, 1⟩,
       ⟨(some 2), .mv (.t 14), none, 3⟩] false)
     (.ret))
     (.skip)))))
   (.reg [⟨(some 15), .bin .add (.t 6) (.c (.pv (.int .i64 (1)))), none, 0⟩,
     ⟨(some 6), .mv (.t 15), none, 1⟩] false)))))))
 (.seq (.reg [⟨(some 2), .mv (.c (.pv (.int .i64 (0)))), none, 0⟩] false)
 (.ret)))⟩
def c17 : RFn := ⟨1, 32, [.tmp 2],
 .seq (.reg [⟨(some 2), .mv (.c (.pv (.int .i64 (0)))), none, 0⟩] false)
 (.scope
  (.seq (.seq (.reg [⟨(some 9), .mv (.t 0), none, 0⟩,
    ⟨(some 10), .call (.f 13) [.t 9], none, 1⟩,
    ⟨(some 11), .bin .gtr (.t 10) (.c (.pv (.int .i64 (20000)))), none, 3⟩] false)
  (.cond (.t 11)
   (.seq (.reg [⟨(some 2), .mv (.c (.pv (.int .i64 (210)))), none, 0⟩] false)
   (.ret))
   (.skip)))
  (.seq (.reg [⟨(some 12), .mv (.t 0), none, 0⟩,
    ⟨(some 13), .build [.emp 7] [(0, 1, .t 12)], none, 1⟩,
    ⟨(some 3), .alloc [.emp 7], none, 0⟩,
    ⟨none, .store 1 (.t 3) (.t 13), none, 7⟩,
    ⟨(some 4), .mv (.c (.pv (.int .i64 (0)))), none, 15⟩] false)
  (.seq (.skip)
  (.seq (.seq (.reg [⟨(some 14), .mv (.t 0), none, 0⟩,
    ⟨(some 15), .slen (.t 14), none, 1⟩,
    ⟨(some 16), .mv (.c (.pv (.int .i64 (0)))), none, 0⟩] false)
  (.block 0
   (.loop [3, 4, 14, 15, 16]
    (.seq (.reg [⟨(some 17), .bin .lss (.t 16) (.t 15), none, 0⟩] false)
    (.seq (.cond (.t 17)
     (.skip)
     (.exit 0))
    (.seq (.block 1
     (.seq (.reg [⟨(some 18), .iaddr 7 (.t 14) (.t 16), none, 0⟩,
       ⟨(some 19), .load true 7 (.t 18), none, 1⟩,
       ⟨(some 6), .alloc [.pv (.int .i64 (0)), .pv (.str []), .emp 7, .emp 7, .emp 7, .pv (.int .i64 (0)), .pv (.int .i64 (0))], none, 0⟩,
       ⟨none, .store 7 (.t 6) (.t 19), none, 7⟩] false)
     (.seq (.reg [⟨(some 20), .build [.pv .nilFunc, .pv .nilFunc, .pv .nilFunc] [(0, 1, .f 36), (1, 1, .f 37), (2, 1, .f 38)], none, 0⟩,
       ⟨(some 21), .mv (.c (.pv (.int .i64 (0)))), none, 0⟩] false)
     (.block 2
      (.loop [3, 4, 6, 14, 15, 16, 20, 21]
       (.seq (.reg [⟨(some 22), .bin .lss (.t 21) (.c (.pv (.int .i64 (3)))), none, 0⟩] false)
       (.seq (.cond (.t 22)
        (.skip)
        (.exit 2))
       (.seq (.block 3
        (.seq (.reg [⟨(some 23), .index false 3 1 (.t 20) (.t 21), none, 0⟩,
          ⟨(some 8), .mv (.t 23), none, 1⟩] false)
        (.seq (.reg [⟨(some 24), .mv (.t 8), none, 0⟩,
          ⟨(some 25), .load true 1 (.t 3), none, 0⟩,
          ⟨(some 26), .load true 7 (.t 6), none, 0⟩,
          ⟨(some 27), .call (.t 24) [.t 25, .t 26], none, 7⟩,
          ⟨(some 28), .not (.t 27), none, 15⟩] false)
        (.cond (.t 28)
         (.seq (.reg [⟨(some 4), .mv (.c (.pv (.int .i64 (210)))), none, 0⟩] false)
         (.exit 0))
         (.skip)))))
       (.reg [⟨(some 29), .bin .add (.t 21) (.c (.pv (.int .i64 (1)))), none, 0⟩,
         ⟨(some 21), .mv (.t 29), none, 1⟩] false)))))))))
    (.reg [⟨(some 30), .bin .add (.t 16) (.c (.pv (.int .i64 (1)))), none, 0⟩,
      ⟨(some 16), .mv (.t 30), none, 1⟩] false)))))))
  (.seq (.reg [⟨(some 31), .mv (.t 4), none, 0⟩,
    ⟨(some 2), .mv (.t 31), none, 1⟩] false)
  (.ret)))))))⟩
def c18 : RFn := ⟨2, 34, [.tmp 4, .tmp 5],
 .seq (.reg [⟨(some 3), .box 7 (.t 1), none, 0⟩,
   ⟨(some 4), .mv (.c (.emp 7)), none, 0⟩,
   ⟨(some 5), .mv (.c (.pv (.int .i64 (0)))), none, 2⟩] false)
 (.seq (.reg [⟨(some 9), .mv (.t 0), none, 0⟩,
   ⟨(some 10), .load true 7 (.t 3), none, 0⟩,
   ⟨(some 11), .bsl 1 2 [.pv (.int .i64 (0))] [(0, .c (.pv (.int .i64 (7)))), (1, .c (.pv (.int .i64 (8))))], none, 0⟩,
   ⟨(some 12), .call (.f 39) [.t 9, .t 10, .t 11], none, 7⟩,
   ⟨(some 8), .mv (.t 12), none, 15⟩,
   ⟨(some 13), .extract (.t 8) 0, none, 31⟩,
   ⟨(some 14), .extract (.t 8) 1, none, 31⟩,
   ⟨(some 6), .alloc [.emp 7, .pv (.int .i64 (0)), .pv (.bool false), .pv (.int .i64 (0)), .pv (.str []), .pv (.int .i64 (0)), .pv (.int .i64 (0)), .pv (.int .i64 (0))], none, 0⟩,
   ⟨none, .store 8 (.t 6) (.t 13), none, 191⟩,
   ⟨(some 7), .mv (.t 14), none, 511⟩] false)
 (.seq (.seq (.reg [⟨(some 15), .mv (.t 7), none, 0⟩,
   ⟨(some 16), .bin .neq (.t 15) (.c (.pv (.int .i64 (0)))), none, 1⟩] false)
 (.cond (.t 16)
  (.seq (.reg [⟨(some 17), .mv (.t 7), none, 0⟩,
    ⟨(some 4), .mv (.c (.emp 7)), none, 0⟩,
    ⟨(some 5), .mv (.t 17), none, 3⟩] false)
  (.ret))
  (.skip)))
 (.seq (.reg [⟨(some 18), .load true 8 (.t 6), none, 0⟩,
   ⟨(some 19), .call (.f 40) [.t 18], none, 1⟩,
   ⟨(some 20), .field false 2 1 (.t 19), none, 3⟩,
   ⟨(some 21), .faddr (.t 3) 5, none, 0⟩,
   ⟨(some 22), .load false 1 (.t 21), none, 8⟩,
   ⟨(some 23), .faddr (.t 3) 5, none, 0⟩,
   ⟨(some 24), .load false 1 (.t 23), none, 32⟩,
   ⟨(some 25), .faddr (.t 3) 6, none, 0⟩,
   ⟨(some 26), .load false 1 (.t 25), none, 128⟩,
   ⟨(some 27), .bin .add (.t 24) (.t 26), none, 480⟩,
   ⟨(some 28), .faddr (.t 3) 5, none, 0⟩,
   ⟨(some 29), .load false 1 (.t 28), none, 1024⟩,
   ⟨(some 30), .faddr (.t 3) 6, none, 0⟩,
   ⟨(some 31), .load false 1 (.t 30), none, 4096⟩,
   ⟨(some 32), .bin .add (.t 29) (.t 31), none, 15360⟩,
   ⟨(some 33), .slice 7 (.t 20) (some (.t 22)) (some (.t 27)) (some (.t 32)), none, 32767⟩,
   ⟨(some 4), .mv (.t 33), none, 65535⟩,
   ⟨(some 5), .mv (.c (.pv (.int .i64 (0)))), none, 131071⟩] true)
 (.ret))))⟩
def c19 : RFn := ⟨2, 26, [.tmp 4],
 .seq (.reg [⟨(some 4), .mv (.c (.pv (.bool false))), none, 0⟩] false)
 (.seq (.seq (.reg [⟨(some 6), .mv (.t 0), none, 0⟩,
   ⟨(some 7), .slen (.t 6), none, 1⟩,
   ⟨(some 8), .mv (.t 1), none, 0⟩,
   ⟨(some 9), .slen (.t 8), none, 4⟩,
   ⟨(some 10), .bin .neq (.t 7) (.t 9), none, 15⟩] false)
 (.cond (.t 10)
  (.seq (.reg [⟨(some 4), .mv (.c (.pv (.bool false))), none, 0⟩] false)
  (.ret))
  (.skip)))
 (.seq (.seq (.reg [⟨(some 11), .mv (.t 0), none, 0⟩,
   ⟨(some 12), .slen (.t 11), none, 1⟩,
   ⟨(some 13), .mv (.c (.pv (.int .i64 (0)))), none, 0⟩] false)
 (.block 0
  (.loop [0, 1, 12, 13]
   (.seq (.reg [⟨(some 14), .bin .lss (.t 13) (.t 12), none, 0⟩] false)
   (.seq (.cond (.t 14)
    (.skip)
    (.exit 0))
   (.seq (.block 1
    (.seq (.reg [⟨(some 15), .mv (.t 13), none, 0⟩,
      ⟨(some 5), .mv (.t 15), none, 1⟩] false)
    (.seq (.reg [⟨(some 16), .mv (.t 0), none, 0⟩,
      ⟨(some 17), .mv (.t 5), none, 0⟩,
      ⟨(some 18), .iaddr 7 (.t 16) (.t 17), none, 3⟩,
      ⟨(some 19), .load true 7 (.t 18), none, 7⟩,
      ⟨(some 20), .mv (.t 1), none, 0⟩,
      ⟨(some 21), .mv (.t 5), none, 0⟩,
      ⟨(some 22), .iaddr 7 (.t 20) (.t 21), none, 48⟩,
      ⟨(some 23), .load true 7 (.t 22), none, 112⟩,
      ⟨(some 24), .eqs true [0, 1, 0, 2, 0, 0, 0] (.t 19) (.t 23), none, 255⟩] true)
    (.cond (.t 24)
     (.seq (.reg [⟨(some 4), .mv (.c (.pv (.bool false))), none, 0⟩] false)
     (.ret))
     (.skip)))))
   (.reg [⟨(some 25), .bin .add (.t 13) (.c (.pv (.int .i64 (1)))), none, 0⟩,
     ⟨(some 13), .mv (.t 25), none, 1⟩] false)))))))
 (.seq (.reg [⟨(some 4), .mv (.c (.pv (.bool true))), none, 0⟩] false)
 (.ret))))⟩
def c20 : RFn := ⟨1, 5, [.cell 2 true 7],
 .seq (.reg [⟨(some 2), .alloc [.pv (.int .i64 (0)), .pv (.bool false), .pv (.int .i64 (0)), .pv (.str []), .pv (.int .i64 (0)), .pv (.int .i64 (0)), .pv (.int .i64 (0))], none, 0⟩] false)
 (.seq (.reg [⟨(some 3), .mv (.t 0), none, 0⟩,
   ⟨(some 4), .build [.pv (.int .i64 (0)), .pv (.bool false), .pv (.int .i64 (0)), .pv (.str []), .pv (.int .i64 (0)), .pv (.int .i64 (0)), .pv (.int .i64 (0))] [(0, 1, .c (.pv (.int .i64 (9)))), (4, 1, .t 3)], none, 1⟩,
   ⟨none, .store 7 (.t 2) (.t 4), none, 3⟩] false)
 (.ret))⟩
def c21 : RFn := ⟨1, 80, [.cell 2 true 67, .tmp 3],
 .seq (.reg [⟨(some 1), .box 67 (.t 0), none, 0⟩,
   ⟨(some 2), .alloc [.emp 7, .emp 7, .emp 7, .emp 3, .pv (.int .i64 (0)), .pv (.int .i64 (0)), .pv (.int .i64 (0)), .pv (.int .i64 (0)), .pv (.int .i64 (0)), .pv (.int .i64 (0)), .pv (.int .i64 (0)), .emp 7, .pv (.int .i64 (0)), .pv (.int .i64 (0)), .pv (.int .i64 (0)), .pv (.int .i64 (0)), .pv (.int .i64 (0)), .pv (.int .i64 (0)), .pv (.int .i64 (0)), .pv (.int .i64 (0)), .pv (.int .i64 (0)), .pv (.int .i64 (0)), .pv (.int .i64 (0)), .pv (.int .i64 (0)), .pv (.int .i64 (0)), .pv (.int .i64 (0)), .pv (.int .i64 (0)), .pv (.int .i64 (0)), .pv (.int .i64 (0)), .pv (.int .i64 (0)), .pv (.int .i64 (0)), .pv (.int .i64 (0)), .pv (.bool false), .pv (.bool false), .emp 47, .pv (.int .i64 (0)), .pv (.int .i64 (0)), .pv (.int .i64 (0)), .pv (.int .i64 (0)), .pv (.int .i64 (0)), .pv (.int .i64 (0)), .pv (.int .i64 (0)), .pv (.int .i64 (0)), .emp 1, .pv (.int .i64 (0)), .pv (.int .i64 (0)), .emp 2, .pv (.int .i64 (0)), .pv (.bool false), .pv (.int .i64 (0)), .pv (.str []), .pv (.int .i64 (0)), .pv (.int .i64 (0)), .pv (.int .i64 (0)), .pv (.int .i64 (0)), .pv (.int .i64 (0)), .pv (.int .i64 (0)), .pv (.int .i64 (0)), .pv (.int .i64 (0)), .pv (.int .i64 (0)), .pv (.int .i64 (0)), .pv (.int .i64 (0)), .emp 57, .emp 47, .emp 3, .pv (.str []), .pv (.int .i64 (0))], none, 0⟩,
   ⟨(some 3), .mv (.c (.pv (.int .i64 (0)))), none, 0⟩] false)
 (.seq (.reg [⟨(some 14), .faddr (.t 1) 0, none, 0⟩,
   ⟨(some 15), .load true 67 (.t 14), none, 1⟩,
   ⟨(some 16), .call (.f 41) [.t 15, .c (.pv (.int .i64 (2)))], none, 3⟩,
   ⟨(some 13), .mv (.t 16), none, 7⟩,
   ⟨(some 17), .extract (.t 13) 0, none, 15⟩,
   ⟨(some 18), .extract (.t 13) 1, none, 15⟩,
   ⟨(some 4), .mv (.t 17), none, 31⟩,
   ⟨(some 5), .mv (.t 18), none, 127⟩] false)
 (.seq (.seq (.reg [⟨(some 19), .mv (.t 5), none, 0⟩,
   ⟨(some 20), .bin .neq (.t 19) (.c (.pv (.int .i64 (0)))), none, 1⟩] false)
 (.cond (.t 20)
  (.seq (.reg [⟨(some 21), .faddr (.t 1) 0, none, 0⟩,
    ⟨(some 22), .load true 67 (.t 21), none, 1⟩,
    ⟨(some 23), .mv (.t 5), none, 0⟩,
    ⟨none, .store 67 (.t 2) (.t 22), none, 3⟩,
    ⟨(some 3), .mv (.t 23), none, 15⟩] false)
  (.ret))
  (.skip)))
 (.seq (.seq (.reg [⟨(some 24), .mv (.t 4), none, 0⟩,
   ⟨(some 25), .iaddr 7 (.t 24) (.c (.pv (.int .i64 (1)))), none, 1⟩,
   ⟨(some 26), .faddr (.t 25) 0, none, 3⟩,
   ⟨(some 27), .load false 1 (.t 26), none, 7⟩,
   ⟨(some 28), .bin .neq (.t 27) (.c (.pv (.int .i64 (5)))), none, 15⟩] false)
 (.cond (.t 28)
  (.seq (.reg [⟨(some 29), .faddr (.t 1) 0, none, 0⟩,
    ⟨(some 30), .load true 67 (.t 29), none, 1⟩,
    ⟨none, .store 67 (.t 2) (.t 30), none, 3⟩,
    ⟨(some 3), .mv (.c (.pv (.int .i64 (22)))), none, 7⟩] false)
  (.ret))
  (.skip)))
 (.seq (.reg [⟨(some 32), .faddr (.t 1) 0, none, 0⟩,
   ⟨(some 33), .load true 67 (.t 32), none, 1⟩,
   ⟨(some 34), .call (.f 42) [.t 33, .c (.pv (.int .i64 (2)))], none, 3⟩,
   ⟨(some 31), .mv (.t 34), none, 7⟩,
   ⟨(some 35), .extract (.t 31) 0, none, 15⟩,
   ⟨(some 36), .extract (.t 31) 1, none, 15⟩,
   ⟨(some 6), .alloc [.emp 7, .emp 7, .emp 7, .emp 3, .pv (.int .i64 (0)), .pv (.int .i64 (0)), .pv (.int .i64 (0)), .pv (.int .i64 (0)), .pv (.int .i64 (0)), .pv (.int .i64 (0)), .pv (.int .i64 (0)), .emp 7, .pv (.int .i64 (0)), .pv (.int .i64 (0)), .pv (.int .i64 (0)), .pv (.int .i64 (0)), .pv (.int .i64 (0)), .pv (.int .i64 (0)), .pv (.int .i64 (0)), .pv (.int .i64 (0)), .pv (.int .i64 (0)), .pv (.int .i64 (0)), .pv (.int .i64 (0)), .pv (.int .i64 (0)), .pv (.int .i64 (0)), .pv (.int .i64 (0)), .pv (.int .i64 (0)), .pv (.int .i64 (0)), .pv (.int .i64 (0)), .pv (.int .i64 (0)), .pv (.int .i64 (0)), .pv (.int .i64 (0)), .pv (.bool false), .pv (.bool false), .emp 47, .pv (.int .i64 (0)), .pv (.int .i64 (0)), .pv (.int .i64 (0)), .pv (.int .i64 (0)), .pv (.int .i64 (0)), .pv (.int .i64 (0)), .pv (.int .i64 (0)), .pv (.int .i64 (0)), .emp 1, .pv (.int .i64 (0)), .pv (.int .i64 (0)), .emp 2, .pv (.int .i64 (0)), .pv (.bool false), .pv (.int .i64 (0)), .pv (.str []), .pv (.int .i64 (0)), .pv (.int .i64 (0)), .pv (.int .i64 (0)), .pv (.int .i64 (0)), .pv (.int .i64 (0)), .pv (.int .i64 (0)), .pv (.int .i64 (0)), .pv (.int .i64 (0)), .pv (.int .i64 (0)), .pv (.int .i64 (0)), .pv (.int .i64 (0)), .emp 57, .emp 47, .emp 3, .pv (.str []), .pv (.int .i64 (0))], none, 0⟩,
   ⟨none, .store 67 (.t 6) (.t 35), none, 95⟩,
   ⟨(some 5), .mv (.t 36), none, 255⟩] false)
 (.seq (.seq (.reg [⟨(some 37), .mv (.t 5), none, 0⟩,
   ⟨(some 38), .bin .neq (.t 37) (.c (.pv (.int .i64 (0)))), none, 1⟩] false)
 (.cond (.t 38)
  (.seq (.reg [⟨(some 39), .faddr (.t 1) 0, none, 0⟩,
    ⟨(some 40), .load true 67 (.t 39), none, 1⟩,
    ⟨(some 41), .mv (.t 5), none, 0⟩,
    ⟨none, .store 67 (.t 2) (.t 40), none, 3⟩,
    ⟨(some 3), .mv (.t 41), none, 15⟩] false)
  (.ret))
  (.skip)))
 (.seq (.reg [⟨(some 42), .mv (.t 4), none, 0⟩,
   ⟨(some 43), .iaddr 7 (.t 42) (.c (.pv (.int .i64 (1)))), none, 1⟩,
   ⟨(some 44), .load true 7 (.t 43), none, 3⟩,
   ⟨(some 7), .alloc [.pv (.int .i64 (0)), .pv (.bool false), .pv (.int .i64 (0)), .pv (.str []), .pv (.int .i64 (0)), .pv (.int .i64 (0)), .pv (.int .i64 (0))], none, 0⟩,
   ⟨none, .store 7 (.t 7) (.t 44), none, 15⟩] false)
 (.seq (.reg [⟨(some 45), .faddr (.t 7) 1, none, 0⟩,
   ⟨none, .store 1 (.t 45) (.c (.pv (.bool false))), none, 1⟩] false)
 (.seq (.reg [⟨(some 46), .build [.pv (.int .i64 (0)), .pv (.bool false), .pv (.int .i64 (0)), .pv (.str []), .pv (.int .i64 (0)), .pv (.int .i64 (0)), .pv (.int .i64 (0))] [], none, 0⟩,
   ⟨(some 8), .alloc [.pv (.int .i64 (0)), .pv (.bool false), .pv (.int .i64 (0)), .pv (.str []), .pv (.int .i64 (0)), .pv (.int .i64 (0)), .pv (.int .i64 (0))], none, 0⟩,
   ⟨none, .store 7 (.t 8) (.t 46), none, 3⟩] false)
 (.seq (.seq (.reg [⟨(some 48), .faddr (.t 6) 2, none, 0⟩,
   ⟨(some 49), .load false 1 (.t 48), none, 1⟩,
   ⟨(some 50), .faddr (.t 6) 0, none, 0⟩,
   ⟨(some 51), .load false 1 (.t 50), none, 4⟩,
   ⟨(some 52), .call (.f 28) [.t 49, .c (.pv (.bool false)), .t 51], none, 15⟩,
   ⟨(some 47), .mv (.t 52), none, 31⟩,
   ⟨(some 53), .extract (.t 47) 0, none, 63⟩,
   ⟨(some 54), .extract (.t 47) 1, none, 63⟩,
   ⟨(some 55), .extract (.t 47) 2, none, 63⟩,
   ⟨(some 10), .alloc [.pv (.int .i64 (0)), .pv (.bool false), .pv (.int .i64 (0)), .pv (.str []), .pv (.int .i64 (0)), .pv (.int .i64 (0)), .pv (.int .i64 (0))], none, 0⟩,
   ⟨(some 9), .mv (.t 53), none, 639⟩,
   ⟨none, .store 7 (.t 10) (.t 54), none, 1791⟩,
   ⟨(some 11), .mv (.t 55), none, 4095⟩] false)
 (.seq (.reg [⟨(some 56), .mv (.t 11), none, 0⟩,
   ⟨(some 57), .bin .eql (.t 56) (.c (.pv (.int .i64 (0)))), none, 1⟩] false)
 (.cond (.t 57)
  (.reg [⟨(some 58), .mv (.t 9), none, 0⟩,
    ⟨(some 59), .load true 7 (.t 10), none, 0⟩,
    ⟨(some 60), .faddr (.t 6) 2, none, 1⟩,
    ⟨none, .store 1 (.t 60) (.t 58), none, 5⟩,
    ⟨none, .store 7 (.t 8) (.t 59), none, 15⟩] true)
  (.skip))))
 (.seq (.reg [⟨(some 61), .load true 67 (.t 1), none, 0⟩,
   ⟨(some 62), .mkf (.func 43) [.t 61] [], none, 1⟩,
   ⟨(some 12), .mv (.t 62), none, 3⟩] false)
 (.seq (.reg [⟨(some 63), .mv (.t 12), none, 0⟩,
   ⟨(some 64), .faddr (.t 6) 2, none, 0⟩,
   ⟨(some 65), .load false 1 (.t 64), none, 2⟩,
   ⟨(some 66), .call (.f 31) [.c (.pv (.bool true))], none, 0⟩,
   ⟨(some 67), .build [.pv (.str []), .pv (.int .i64 (0)), .pv (.bool false), .pv (.int .i64 (0)), .pv (.str []), .pv (.int .i64 (0)), .pv (.int .i64 (0)), .pv (.int .i64 (0))] [(0, 1, .c (.pv (.str [110, 101, 119, 101, 114, 114, 111, 114]))), (1, 7, .t 66)], none, 8⟩,
   ⟨(some 68), .load true 7 (.t 7), none, 0⟩,
   ⟨(some 69), .build [.pv (.str []), .pv (.int .i64 (0)), .pv (.bool false), .pv (.int .i64 (0)), .pv (.str []), .pv (.int .i64 (0)), .pv (.int .i64 (0)), .pv (.int .i64 (0))] [(0, 1, .c (.pv (.str [101, 114, 114, 111, 114, 110, 97, 109, 101]))), (1, 7, .t 68)], none, 32⟩,
   ⟨(some 70), .mv (.t 4), none, 0⟩,
   ⟨(some 71), .iaddr 7 (.t 70) (.c (.pv (.int .i64 (0)))), none, 128⟩,
   ⟨(some 72), .load true 7 (.t 71), none, 384⟩,
   ⟨(some 73), .build [.pv (.str []), .pv (.int .i64 (0)), .pv (.bool false), .pv (.int .i64 (0)), .pv (.str []), .pv (.int .i64 (0)), .pv (.int .i64 (0)), .pv (.int .i64 (0))] [(0, 1, .c (.pv (.str [99, 111, 109, 109, 97, 110, 100]))), (1, 7, .t 72)], none, 896⟩,
   ⟨(some 74), .load true 7 (.t 8), none, 0⟩,
   ⟨(some 75), .build [.pv (.str []), .pv (.int .i64 (0)), .pv (.bool false), .pv (.int .i64 (0)), .pv (.str []), .pv (.int .i64 (0)), .pv (.int .i64 (0)), .pv (.int .i64 (0))] [(0, 1, .c (.pv (.str [111, 115, 116, 97, 99, 107]))), (1, 7, .t 74)], none, 2048⟩,
   ⟨(some 76), .bsl 8 4 [.pv (.str []), .pv (.int .i64 (0)), .pv (.bool false), .pv (.int .i64 (0)), .pv (.str []), .pv (.int .i64 (0)), .pv (.int .i64 (0)), .pv (.int .i64 (0))] [(0, .t 67), (1, .t 69), (2, .t 73), (3, .t 75)], none, 8184⟩,
   ⟨(some 77), .call (.t 63) [.t 65, .t 76], none, 16383⟩,
   ⟨(some 78), .faddr (.t 6) 2, none, 32767⟩,
   ⟨none, .store 1 (.t 78) (.t 77), none, 65535⟩] true)
 (.seq (.reg [⟨(some 79), .load true 67 (.t 6), none, 0⟩,
   ⟨none, .store 67 (.t 2) (.t 79), none, 1⟩,
   ⟨(some 3), .mv (.c (.pv (.int .i64 (0)))), none, 3⟩] false)
 (.ret)))))))))))))⟩
def c22 : RFn := ⟨1, 72, [.cell 2 true 67, .tmp 3],
 .seq (.reg [⟨(some 1), .box 67 (.t 0), none, 0⟩,
   ⟨(some 2), .alloc [.emp 7, .emp 7, .emp 7, .emp 3, .pv (.int .i64 (0)), .pv (.int .i64 (0)), .pv (.int .i64 (0)), .pv (.int .i64 (0)), .pv (.int .i64 (0)), .pv (.int .i64 (0)), .pv (.int .i64 (0)), .emp 7, .pv (.int .i64 (0)), .pv (.int .i64 (0)), .pv (.int .i64 (0)), .pv (.int .i64 (0)), .pv (.int .i64 (0)), .pv (.int .i64 (0)), .pv (.int .i64 (0)), .pv (.int .i64 (0)), .pv (.int .i64 (0)), .pv (.int .i64 (0)), .pv (.int .i64 (0)), .pv (.int .i64 (0)), .pv (.int .i64 (0)), .pv (.int .i64 (0)), .pv (.int .i64 (0)), .pv (.int .i64 (0)), .pv (.int .i64 (0)), .pv (.int .i64 (0)), .pv (.int .i64 (0)), .pv (.int .i64 (0)), .pv (.bool false), .pv (.bool false), .emp 47, .pv (.int .i64 (0)), .pv (.int .i64 (0)), .pv (.int .i64 (0)), .pv (.int .i64 (0)), .pv (.int .i64 (0)), .pv (.int .i64 (0)), .pv (.int .i64 (0)), .pv (.int .i64 (0)), .emp 1, .pv (.int .i64 (0)), .pv (.int .i64 (0)), .emp 2, .pv (.int .i64 (0)), .pv (.bool false), .pv (.int .i64 (0)), .pv (.str []), .pv (.int .i64 (0)), .pv (.int .i64 (0)), .pv (.int .i64 (0)), .pv (.int .i64 (0)), .pv (.int .i64 (0)), .pv (.int .i64 (0)), .pv (.int .i64 (0)), .pv (.int .i64 (0)), .pv (.int .i64 (0)), .pv (.int .i64 (0)), .pv (.int .i64 (0)), .emp 57, .emp 47, .emp 3, .pv (.str []), .pv (.int .i64 (0))], none, 0⟩,
   ⟨(some 3), .mv (.c (.pv (.int .i64 (0)))), none, 0⟩] false)
 (.scope
  (.seq (.reg [⟨(some 13), .faddr (.t 1) 0, none, 0⟩,
    ⟨(some 14), .faddr (.t 13) 2, none, 1⟩,
    ⟨(some 15), .load false 1 (.t 14), none, 3⟩,
    ⟨(some 16), .call (.f 24) [.c (.pv (.int .i64 (3)))], none, 0⟩,
    ⟨(some 17), .call (.f 25) [.c (.pv (.str [110, 101, 119, 101, 114, 114, 111, 114]))], none, 8⟩,
    ⟨(some 18), .call (.f 23) [.t 15, .t 16, .t 17], none, 31⟩,
    ⟨(some 12), .mv (.t 18), none, 63⟩,
    ⟨(some 19), .extract (.t 12) 0, none, 127⟩,
    ⟨(some 20), .extract (.t 12) 1, none, 127⟩,
    ⟨(some 21), .extract (.t 12) 2, none, 127⟩,
    ⟨(some 4), .alloc [.pv (.int .i64 (0)), .pv (.bool false), .pv (.int .i64 (0)), .pv (.str []), .pv (.int .i64 (0)), .pv (.int .i64 (0)), .pv (.int .i64 (0))], none, 0⟩,
    ⟨none, .store 7 (.t 4) (.t 19), none, 1279⟩,
    ⟨(some 5), .mv (.t 20), none, 3583⟩,
    ⟨(some 6), .mv (.t 21), none, 8191⟩] true)
  (.seq (.reg [⟨(some 22), .call (.f 31) [.c (.pv (.bool true))], none, 0⟩,
    ⟨(some 7), .alloc [.pv (.int .i64 (0)), .pv (.bool false), .pv (.int .i64 (0)), .pv (.str []), .pv (.int .i64 (0)), .pv (.int .i64 (0)), .pv (.int .i64 (0))], none, 0⟩,
    ⟨none, .store 7 (.t 7) (.t 22), none, 3⟩] false)
  (.seq (.reg [⟨(some 23), .faddr (.t 4) 1, none, 0⟩,
    ⟨(some 24), .load false 1 (.t 23), none, 1⟩,
    ⟨(some 25), .faddr (.t 7) 1, none, 3⟩,
    ⟨none, .store 1 (.t 25) (.t 24), none, 7⟩] false)
  (.seq (.seq (.reg [⟨(some 26), .mv (.t 5), none, 0⟩,
    ⟨(some 27), .not (.t 26), none, 1⟩,
    ⟨(some 28), .mv (.t 27), none, 3⟩,
    ⟨(some 29), .load true 7 (.t 4), (some (28, false)), 7⟩,
    ⟨(some 30), .load true 7 (.t 7), (some (28, false)), 7⟩,
    ⟨(some 31), .eqs true [0, 1, 0, 2, 0, 0, 0] (.t 29) (.t 30), (some (28, false)), 31⟩,
    ⟨(some 32), .pick (.t 28) (.c (.pv (.bool true))) (.t 31), none, 63⟩] false)
  (.cond (.t 32)
   (.seq (.reg [⟨(some 33), .faddr (.t 1) 0, none, 0⟩,
     ⟨(some 34), .load true 67 (.t 33), none, 1⟩,
     ⟨none, .store 67 (.t 2) (.t 34), none, 3⟩,
     ⟨(some 3), .mv (.c (.pv (.int .i64 (0)))), none, 7⟩] false)
   (.ret))
   (.skip)))
  (.seq (.reg [⟨(some 35), .faddr (.t 1) 0, none, 0⟩,
    ⟨(some 36), .faddr (.t 35) 65, none, 1⟩,
    ⟨(some 37), .load false 1 (.t 36), none, 3⟩,
    ⟨(some 8), .mv (.t 37), none, 7⟩] false)
  (.seq (.skip)
  (.seq (.seq (.reg [⟨(some 38), .load true 67 (.t 1), none, 0⟩,
    ⟨(some 39), .call (.f 44) [.t 38, .c (.pv (.str [101, 114, 114, 111, 114, 110, 97, 109, 101]))], none, 1⟩,
    ⟨(some 40), .load true 67 (.t 1), none, 0⟩,
    ⟨(some 41), .call (.f 44) [.t 40, .c (.pv (.str [99, 111, 109, 109, 97, 110, 100]))], none, 7⟩,
    ⟨(some 42), .build [.pv (.str []), .pv (.str []), .pv (.str []), .pv (.str []), .pv (.str [])] [(0, 1, .c (.pv (.str [37, 37, 91, 32, 69, 114, 114, 111, 114, 58, 32]))), (1, 1, .t 39), (2, 1, .c (.pv (.str [59, 32, 79, 102, 102, 101, 110, 100, 105, 110, 103, 67, 111, 109, 109, 97, 110, 100, 58, 32]))), (3, 1, .t 41), (4, 1, .c (.pv (.str [32, 93, 37, 37, 10])))], none, 15⟩,
    ⟨(some 43), .mv (.c (.pv (.int .i64 (0)))), none, 0⟩] true)
  (.block 0
   (.loop [1, 2, 8, 42, 43]
    (.seq (.reg [⟨(some 44), .bin .lss (.t 43) (.c (.pv (.int .i64 (5)))), none, 0⟩] false)
    (.seq (.cond (.t 44)
     (.skip)
     (.exit 0))
    (.seq (.block 1
     (.seq (.reg [⟨(some 45), .index false 5 1 (.t 42) (.t 43), none, 0⟩,
       ⟨(some 10), .mv (.t 45), none, 1⟩] false)
     (.seq (.reg [⟨(some 46), .mv (.t 8), none, 0⟩,
       ⟨(some 47), .mv (.t 10), none, 0⟩,
       ⟨(some 48), .bin .add (.t 46) (.t 47), none, 3⟩,
       ⟨(some 8), .mv (.t 48), none, 7⟩] false)
     (.seq (.reg [⟨(some 49), .mv (.t 8), none, 0⟩,
       ⟨(some 50), .strlen (.t 49), none, 1⟩,
       ⟨(some 51), .bin .gtr (.t 50) (.c (.pv (.int .i64 (2000)))), none, 3⟩] false)
     (.cond (.t 51)
      (.exit 0)
      (.skip))))))
    (.reg [⟨(some 52), .bin .add (.t 43) (.c (.pv (.int .i64 (1)))), none, 0⟩,
      ⟨(some 43), .mv (.t 52), none, 1⟩] false)))))))
  (.seq (.seq (.reg [⟨(some 53), .mv (.t 8), none, 0⟩,
    ⟨(some 54), .strlen (.t 53), none, 1⟩,
    ⟨(some 55), .bin .gtr (.t 54) (.c (.pv (.int .i64 (2000)))), none, 3⟩] false)
  (.cond (.t 55)
   (.seq (.reg [⟨(some 56), .faddr (.t 1) 0, none, 0⟩,
     ⟨(some 57), .load true 67 (.t 56), none, 1⟩,
     ⟨none, .store 67 (.t 2) (.t 57), none, 3⟩,
     ⟨(some 3), .mv (.c (.pv (.int .i64 (26)))), none, 7⟩] false)
   (.ret))
   (.skip)))
  (.seq (.reg [⟨(some 58), .faddr (.t 1) 0, none, 0⟩,
    ⟨(some 59), .load true 67 (.t 58), none, 1⟩,
    ⟨(some 11), .alloc [.emp 7, .emp 7, .emp 7, .emp 3, .pv (.int .i64 (0)), .pv (.int .i64 (0)), .pv (.int .i64 (0)), .pv (.int .i64 (0)), .pv (.int .i64 (0)), .pv (.int .i64 (0)), .pv (.int .i64 (0)), .emp 7, .pv (.int .i64 (0)), .pv (.int .i64 (0)), .pv (.int .i64 (0)), .pv (.int .i64 (0)), .pv (.int .i64 (0)), .pv (.int .i64 (0)), .pv (.int .i64 (0)), .pv (.int .i64 (0)), .pv (.int .i64 (0)), .pv (.int .i64 (0)), .pv (.int .i64 (0)), .pv (.int .i64 (0)), .pv (.int .i64 (0)), .pv (.int .i64 (0)), .pv (.int .i64 (0)), .pv (.int .i64 (0)), .pv (.int .i64 (0)), .pv (.int .i64 (0)), .pv (.int .i64 (0)), .pv (.int .i64 (0)), .pv (.bool false), .pv (.bool false), .emp 47, .pv (.int .i64 (0)), .pv (.int .i64 (0)), .pv (.int .i64 (0)), .pv (.int .i64 (0)), .pv (.int .i64 (0)), .pv (.int .i64 (0)), .pv (.int .i64 (0)), .pv (.int .i64 (0)), .emp 1, .pv (.int .i64 (0)), .pv (.int .i64 (0)), .emp 2, .pv (.int .i64 (0)), .pv (.bool false), .pv (.int .i64 (0)), .pv (.str []), .pv (.int .i64 (0)), .pv (.int .i64 (0)), .pv (.int .i64 (0)), .pv (.int .i64 (0)), .pv (.int .i64 (0)), .pv (.int .i64 (0)), .pv (.int .i64 (0)), .pv (.int .i64 (0)), .pv (.int .i64 (0)), .pv (.int .i64 (0)), .pv (.int .i64 (0)), .emp 57, .emp 47, .emp 3, .pv (.str []), .pv (.int .i64 (0))], none, 0⟩,
    ⟨none, .store 67 (.t 11) (.t 59), none, 7⟩] false)
  (.seq (.reg [⟨(some 60), .mv (.t 8), none, 0⟩,
    ⟨(some 61), .load true 67 (.t 1), none, 0⟩,
    ⟨(some 62), .faddr (.t 1) 0, none, 0⟩,
    ⟨(some 63), .faddr (.t 62) 2, none, 4⟩,
    ⟨(some 64), .load false 1 (.t 63), none, 12⟩,
    ⟨(some 65), .call (.f 31) [.c (.pv (.bool false))], none, 0⟩,
    ⟨(some 66), .build [.pv (.str []), .pv (.int .i64 (0)), .pv (.bool false), .pv (.int .i64 (0)), .pv (.str []), .pv (.int .i64 (0)), .pv (.int .i64 (0)), .pv (.int .i64 (0))] [(0, 1, .c (.pv (.str [110, 101, 119, 101, 114, 114, 111, 114]))), (1, 7, .t 65)], none, 32⟩,
    ⟨(some 67), .bsl 8 1 [.pv (.str []), .pv (.int .i64 (0)), .pv (.bool false), .pv (.int .i64 (0)), .pv (.str []), .pv (.int .i64 (0)), .pv (.int .i64 (0)), .pv (.int .i64 (0))] [(0, .t 66)], none, 96⟩,
    ⟨(some 68), .call (.f 43) [.t 61, .t 64, .t 67], none, 254⟩,
    ⟨(some 69), .faddr (.t 11) 65, none, 1⟩,
    ⟨none, .store 1 (.t 69) (.t 60), none, 1023⟩,
    ⟨(some 70), .faddr (.t 11) 2, none, 2047⟩,
    ⟨none, .store 1 (.t 70) (.t 68), none, 4095⟩] true)
  (.seq (.reg [⟨(some 71), .load true 67 (.t 11), none, 0⟩,
    ⟨none, .store 67 (.t 2) (.t 71), none, 1⟩,
    ⟨(some 3), .mv (.c (.pv (.int .i64 (0)))), none, 3⟩] false)
  (.ret)))))))))))))⟩
def c23 : RFn := ⟨3, 45, [.cell 6 true 7, .tmp 7, .tmp 8],
 .seq (.reg [⟨(some 4), .box 7 (.t 1), none, 0⟩,
   ⟨(some 5), .box 7 (.t 2), none, 0⟩,
   ⟨(some 6), .alloc [.pv (.int .i64 (0)), .pv (.bool false), .pv (.int .i64 (0)), .pv (.str []), .pv (.int .i64 (0)), .pv (.int .i64 (0)), .pv (.int .i64 (0))], none, 0⟩,
   ⟨(some 7), .mv (.c (.pv (.bool false))), none, 0⟩,
   ⟨(some 8), .mv (.c (.pv (.int .i64 (0)))), none, 8⟩] false)
 (.seq (.reg [⟨(some 14), .mv (.t 0), none, 0⟩,
   ⟨(some 15), .load true 7 (.t 4), none, 0⟩,
   ⟨(some 16), .bsl 1 1 [.pv (.int .i64 (0))] [(0, .c (.pv (.int .i64 (9))))], none, 0⟩,
   ⟨(some 17), .call (.f 39) [.t 14, .t 15, .t 16], none, 7⟩,
   ⟨(some 13), .mv (.t 17), none, 15⟩,
   ⟨(some 18), .extract (.t 13) 0, none, 31⟩,
   ⟨(some 19), .extract (.t 13) 1, none, 31⟩,
   ⟨(some 9), .alloc [.emp 7, .pv (.int .i64 (0)), .pv (.bool false), .pv (.int .i64 (0)), .pv (.str []), .pv (.int .i64 (0)), .pv (.int .i64 (0)), .pv (.int .i64 (0))], none, 0⟩,
   ⟨none, .store 8 (.t 9) (.t 18), none, 191⟩,
   ⟨(some 10), .mv (.t 19), none, 511⟩] false)
 (.seq (.seq (.reg [⟨(some 20), .mv (.t 10), none, 0⟩,
   ⟨(some 21), .bin .neq (.t 20) (.c (.pv (.int .i64 (0)))), none, 1⟩] false)
 (.cond (.t 21)
  (.seq (.reg [⟨(some 22), .build [.pv (.int .i64 (0)), .pv (.bool false), .pv (.int .i64 (0)), .pv (.str []), .pv (.int .i64 (0)), .pv (.int .i64 (0)), .pv (.int .i64 (0))] [], none, 0⟩,
    ⟨(some 23), .mv (.t 10), none, 0⟩,
    ⟨none, .store 7 (.t 6) (.t 22), none, 1⟩,
    ⟨(some 7), .mv (.c (.pv (.bool false))), none, 5⟩,
    ⟨(some 8), .mv (.t 23), none, 15⟩] false)
  (.ret))
  (.skip)))
 (.seq (.reg [⟨(some 24), .load true 8 (.t 9), none, 0⟩,
   ⟨(some 25), .call (.f 40) [.t 24], none, 1⟩,
   ⟨(some 11), .alloc [.pv (.int .i64 (0)), .pv (.str []), .emp 7, .emp 7, .emp 7, .pv (.int .i64 (0)), .pv (.int .i64 (0))], none, 0⟩,
   ⟨none, .store 7 (.t 11) (.t 25), none, 7⟩] false)
 (.seq (.reg [⟨(some 26), .faddr (.t 11) 3, none, 0⟩,
   ⟨(some 27), .load false 1 (.t 26), none, 1⟩,
   ⟨(some 28), .load true 7 (.t 5), none, 0⟩,
   ⟨(some 29), .call (.f 45) [.t 27, .t 28], none, 7⟩,
   ⟨(some 12), .mv (.t 29), none, 15⟩] false)
 (.seq (.seq (.reg [⟨(some 30), .mv (.t 12), none, 0⟩,
   ⟨(some 31), .bin .lss (.t 30) (.c (.pv (.int .i64 (0)))), none, 1⟩,
   ⟨(some 32), .mv (.t 31), none, 3⟩,
   ⟨(some 33), .mv (.t 12), (some (32, false)), 7⟩,
   ⟨(some 34), .faddr (.t 11) 4, (some (32, false)), 7⟩,
   ⟨(some 35), .load false 1 (.t 34), (some (32, false)), 23⟩,
   ⟨(some 36), .slen (.t 35), (some (32, false)), 55⟩,
   ⟨(some 37), .bin .geq (.t 33) (.t 36), (some (32, false)), 127⟩,
   ⟨(some 38), .pick (.t 32) (.c (.pv (.bool true))) (.t 37), none, 255⟩] false)
 (.cond (.t 38)
  (.seq (.reg [⟨(some 39), .build [.pv (.int .i64 (0)), .pv (.bool false), .pv (.int .i64 (0)), .pv (.str []), .pv (.int .i64 (0)), .pv (.int .i64 (0)), .pv (.int .i64 (0))] [], none, 0⟩,
    ⟨none, .store 7 (.t 6) (.t 39), none, 1⟩,
    ⟨(some 7), .mv (.c (.pv (.bool false))), none, 3⟩,
    ⟨(some 8), .mv (.c (.pv (.int .i64 (0)))), none, 7⟩] false)
  (.ret))
  (.skip)))
 (.seq (.reg [⟨(some 40), .faddr (.t 11) 4, none, 0⟩,
   ⟨(some 41), .load false 1 (.t 40), none, 1⟩,
   ⟨(some 42), .mv (.t 12), none, 0⟩,
   ⟨(some 43), .iaddr 7 (.t 41) (.t 42), none, 7⟩,
   ⟨(some 44), .load true 7 (.t 43), none, 15⟩,
   ⟨none, .store 7 (.t 6) (.t 44), none, 31⟩,
   ⟨(some 7), .mv (.c (.pv (.bool true))), none, 63⟩,
   ⟨(some 8), .mv (.c (.pv (.int .i64 (0)))), none, 127⟩] false)
 (.ret)))))))⟩
def c24 : RFn := ⟨1, 5, [.cell 2 true 7],
 .seq (.reg [⟨(some 2), .alloc [.pv (.int .i64 (0)), .pv (.bool false), .pv (.int .i64 (0)), .pv (.str []), .pv (.int .i64 (0)), .pv (.int .i64 (0)), .pv (.int .i64 (0))], none, 0⟩] false)
 (.seq (.reg [⟨(some 3), .mv (.t 0), none, 0⟩,
   ⟨(some 4), .build [.pv (.int .i64 (0)), .pv (.bool false), .pv (.int .i64 (0)), .pv (.str []), .pv (.int .i64 (0)), .pv (.int .i64 (0)), .pv (.int .i64 (0))] [(0, 1, .c (.pv (.int .i64 (9)))), (4, 1, .t 3)], none, 1⟩,
   ⟨none, .store 7 (.t 2) (.t 4), none, 3⟩] false)
 (.ret))⟩
def c25 : RFn := ⟨1, 5, [.cell 2 true 7],
 .seq (.reg [⟨(some 2), .alloc [.pv (.int .i64 (0)), .pv (.bool false), .pv (.int .i64 (0)), .pv (.str []), .pv (.int .i64 (0)), .pv (.int .i64 (0)), .pv (.int .i64 (0))], none, 0⟩] false)
 (.seq (.reg [⟨(some 3), .mv (.t 0), none, 0⟩,
   ⟨(some 4), .build [.pv (.int .i64 (0)), .pv (.bool false), .pv (.int .i64 (0)), .pv (.str []), .pv (.int .i64 (0)), .pv (.int .i64 (0)), .pv (.int .i64 (0))] [(0, 1, .c (.pv (.int .i64 (5)))), (3, 1, .t 3)], none, 1⟩,
   ⟨none, .store 7 (.t 2) (.t 4), none, 3⟩] false)
 (.ret))⟩
def c26 : RFn := ⟨2, 51, [.tmp 4],
 .seq (.reg [⟨(some 3), .box 7 (.t 1), none, 0⟩,
   ⟨(some 4), .mv (.c (.pv (.bool false))), none, 0⟩] false)
 (.seq (.seq (.reg [⟨(some 6), .load true 7 (.t 3), none, 0⟩,
   ⟨(some 7), .call (.f 46) [.t 6], none, 1⟩,
   ⟨(some 8), .bin .neq (.t 7) (.c (.pv (.int .i64 (0)))), none, 3⟩] false)
 (.cond (.t 8)
  (.seq (.reg [⟨(some 4), .mv (.c (.pv (.bool false))), none, 0⟩] false)
  (.ret))
  (.skip)))
 (.seq (.reg [⟨(some 9), .faddr (.t 3) 0, none, 0⟩,
   ⟨(some 10), .load false 1 (.t 9), none, 1⟩,
   ⟨(some 11), .call (.f 47) [.t 10], none, 3⟩,
   ⟨(some 5), .mv (.t 11), none, 7⟩] false)
 (.seq (.seq (.reg [⟨(some 12), .mv (.t 5), none, 0⟩,
   ⟨(some 13), .bin .eql (.t 12) (.c (.pv (.int .i64 (0)))), none, 1⟩] false)
 (.cond (.t 13)
  (.seq (.reg [⟨(some 4), .mv (.c (.pv (.bool true))), none, 0⟩] false)
  (.ret))
  (.skip)))
 (.seq (.seq (.reg [⟨(some 14), .faddr (.t 3) 4, none, 0⟩,
   ⟨(some 15), .load false 1 (.t 14), none, 1⟩,
   ⟨(some 16), .mv (.t 0), none, 0⟩,
   ⟨(some 17), .slen (.t 16), none, 4⟩,
   ⟨(some 18), .bin .geq (.t 15) (.t 17), none, 15⟩,
   ⟨(some 19), .mv (.t 18), none, 31⟩,
   ⟨(some 20), .mv (.t 0), (some (19, false)), 63⟩,
   ⟨(some 21), .faddr (.t 3) 4, (some (19, false)), 63⟩,
   ⟨(some 22), .load false 1 (.t 21), (some (19, false)), 191⟩,
   ⟨(some 23), .iaddr 7 (.t 20) (.t 22), (some (19, false)), 511⟩,
   ⟨(some 24), .faddr (.t 23) 0, (some (19, false)), 1023⟩,
   ⟨(some 25), .load false 1 (.t 24), (some (19, false)), 2047⟩,
   ⟨(some 26), .mv (.t 5), (some (19, false)), 63⟩,
   ⟨(some 27), .bin .neq (.t 25) (.t 26), (some (19, false)), 8191⟩,
   ⟨(some 28), .pick (.t 19) (.c (.pv (.bool true))) (.t 27), none, 16383⟩] false)
 (.cond (.t 28)
  (.seq (.reg [⟨(some 4), .mv (.c (.pv (.bool false))), none, 0⟩] false)
  (.ret))
  (.skip)))
 (.seq (.reg [⟨(some 29), .faddr (.t 3) 0, none, 0⟩,
   ⟨(some 30), .load false 1 (.t 29), none, 1⟩,
   ⟨(some 31), .bin .eql (.t 30) (.c (.pv (.int .i64 (9)))), none, 3⟩,
   ⟨(some 32), .mv (.t 31), none, 7⟩,
   ⟨(some 33), .faddr (.t 3) 0, (some (32, false)), 15⟩,
   ⟨(some 34), .load false 1 (.t 33), (some (32, false)), 31⟩,
   ⟨(some 35), .bin .eql (.t 34) (.c (.pv (.int .i64 (11)))), (some (32, false)), 63⟩,
   ⟨(some 36), .pick (.t 32) (.c (.pv (.bool true))) (.t 35), none, 127⟩,
   ⟨(some 37), .mv (.t 36), none, 255⟩,
   ⟨(some 38), .faddr (.t 3) 5, (some (37, false)), 511⟩,
   ⟨(some 39), .load false 1 (.t 38), (some (37, false)), 1023⟩,
   ⟨(some 40), .faddr (.t 3) 6, (some (37, false)), 511⟩,
   ⟨(some 41), .load false 1 (.t 40), (some (37, false)), 2559⟩,
   ⟨(some 42), .bin .add (.t 39) (.t 41), (some (37, false)), 8191⟩,
   ⟨(some 43), .mv (.t 0), (some (37, false)), 511⟩,
   ⟨(some 44), .faddr (.t 3) 4, (some (37, false)), 511⟩,
   ⟨(some 45), .load false 1 (.t 44), (some (37, false)), 33279⟩,
   ⟨(some 46), .iaddr 7 (.t 43) (.t 45), (some (37, false)), 115199⟩,
   ⟨(some 47), .load true 7 (.t 46), (some (37, false)), 246271⟩,
   ⟨(some 48), .call (.f 48) [.t 47], (some (37, false)), 508415⟩,
   ⟨(some 49), .bin .leq (.t 42) (.t 48), (some (37, false)), 1048575⟩,
   ⟨(some 50), .pick (.t 37) (.c (.pv (.bool true))) (.t 49), none, 2097151⟩,
   ⟨(some 4), .mv (.t 50), none, 4194303⟩] true)
 (.ret))))))⟩
def c27 : RFn := ⟨0, 2, [.cell 0 true 23],
 .seq (.reg [⟨(some 0), .alloc [.pv (.str []), .pv (.str []), .pv (.str []), .pv (.str []), .pv (.str []), .pv (.str []), .pv (.str []), .pv (.str []), .pv (.str []), .pv (.str []), .pv (.str []), .pv (.str []), .pv (.str []), .pv (.str []), .pv (.str []), .pv (.str []), .pv (.str []), .pv (.str []), .pv (.str []), .pv (.str []), .pv (.str []), .pv (.str []), .pv (.str [])], none, 0⟩] false)
 (.seq (.reg [⟨(some 1), .build [.pv (.str []), .pv (.str []), .pv (.str []), .pv (.str []), .pv (.str []), .pv (.str []), .pv (.str []), .pv (.str []), .pv (.str []), .pv (.str []), .pv (.str []), .pv (.str []), .pv (.str []), .pv (.str []), .pv (.str []), .pv (.str []), .pv (.str []), .pv (.str []), .pv (.str []), .pv (.str []), .pv (.str []), .pv (.str []), .pv (.str [])] [(0, 1, .c (.pv (.str [115, 116, 97, 99, 107, 117, 110, 100, 101, 114, 102, 108, 111, 119]))), (1, 1, .c (.pv (.str [115, 116, 97, 99, 107, 111, 118, 101, 114, 102, 108, 111, 119]))), (2, 1, .c (.pv (.str [116, 121, 112, 101, 99, 104, 101, 99, 107]))), (3, 1, .c (.pv (.str [114, 97, 110, 103, 101, 99, 104, 101, 99, 107]))), (4, 1, .c (.pv (.str [117, 110, 100, 101, 102, 105, 110, 101, 100]))), (5, 1, .c (.pv (.str [117, 110, 100, 101, 102, 105, 110, 101, 100, 114, 101, 115, 117, 108, 116]))), (6, 1, .c (.pv (.str [108, 105, 109, 105, 116, 99, 104, 101, 99, 107]))), (7, 1, .c (.pv (.str [86, 77, 101, 114, 114, 111, 114]))), (8, 1, .c (.pv (.str [100, 105, 99, 116, 115, 116, 97, 99, 107, 117, 110, 100, 101, 114, 102, 108, 111, 119]))), (9, 1, .c (.pv (.str [100, 105, 99, 116, 115, 116, 97, 99, 107, 111, 118, 101, 114, 102, 108, 111, 119]))), (10, 1, .c (.pv (.str [100, 105, 99, 116, 102, 117, 108, 108]))), (11, 1, .c (.pv (.str [105, 110, 118, 97, 108, 105, 100, 97, 99, 99, 101, 115, 115]))), (12, 1, .c (.pv (.str [117, 110, 109, 97, 116, 99, 104, 101, 100, 109, 97, 114, 107]))), (13, 1, .c (.pv (.str [105, 110, 118, 97, 108, 105, 100, 101, 120, 105, 116]))), (14, 1, .c (.pv (.str [105, 110, 118, 97, 108, 105, 100, 114, 101, 115, 116, 111, 114, 101]))), (15, 1, .c (.pv (.str [101, 120, 101, 99, 115, 116, 97, 99, 107, 111, 118, 101, 114, 102, 108, 111, 119]))), (16, 1, .c (.pv (.str [105, 111, 101, 114, 114, 111, 114]))), (17, 1, .c (.pv (.str [115, 121, 110, 116, 97, 120, 101, 114, 114, 111, 114]))), (18, 1, .c (.pv (.str [110, 111, 99, 117, 114, 114, 101, 110, 116, 112, 111, 105, 110, 116]))), (19, 1, .c (.pv (.str [105, 110, 118, 97, 108, 105, 100, 102, 111, 110, 116]))), (20, 1, .c (.pv (.str [117, 110, 100, 101, 102, 105, 110, 101, 100, 114, 101, 115, 111, 117, 114, 99, 101]))), (21, 1, .c (.pv (.str [99, 111, 110, 102, 105, 103, 117, 114, 97, 116, 105, 111, 110, 101, 114, 114, 111, 114]))), (22, 1, .c (.pv (.str [116, 105, 109, 101, 111, 117, 116])))], none, 0⟩,
   ⟨none, .store 23 (.t 0) (.t 1), none, 1⟩] false)
 (.ret))⟩
def c28 : RFn := ⟨3, 37, [.tmp 6, .cell 7 true 7, .tmp 8],
 .seq (.reg [⟨(some 6), .mv (.c (.emp 7)), none, 0⟩,
   ⟨(some 7), .alloc [.pv (.int .i64 (0)), .pv (.bool false), .pv (.int .i64 (0)), .pv (.str []), .pv (.int .i64 (0)), .pv (.int .i64 (0)), .pv (.int .i64 (0))], none, 0⟩,
   ⟨(some 8), .mv (.c (.pv (.int .i64 (0)))), none, 1⟩] false)
 (.seq (.reg [⟨(some 13), .mv (.t 2), none, 0⟩,
   ⟨(some 14), .slen (.t 13), none, 1⟩,
   ⟨(some 15), .mksl 7 64 [.int .i64 (0), .bool false, .int .i64 (0), .str [], .int .i64 (0), .int .i64 (0), .int .i64 (0)] (.t 14), none, 3⟩,
   ⟨(some 9), .mv (.t 15), none, 7⟩] false)
 (.seq (.reg [⟨(some 16), .mv (.t 9), none, 0⟩,
   ⟨(some 17), .mv (.t 2), none, 0⟩,
   ⟨(some 18), .copy 7 (.t 16) (.t 17), none, 3⟩] false)
 (.seq (.reg [⟨(some 20), .mv (.t 0), none, 0⟩,
   ⟨(some 21), .mv (.t 9), none, 0⟩,
   ⟨(some 22), .build [.pv (.int .i64 (0)), .pv (.str []), .emp 7, .emp 7, .emp 7, .pv (.int .i64 (0)), .pv (.int .i64 (0))] [(0, 1, .c (.pv (.int .i64 (2)))), (2, 1, .t 21)], none, 2⟩,
   ⟨(some 23), .call (.f 49) [.t 20, .t 22], none, 7⟩,
   ⟨(some 19), .mv (.t 23), none, 15⟩,
   ⟨(some 24), .extract (.t 19) 0, none, 31⟩,
   ⟨(some 25), .extract (.t 19) 1, none, 31⟩,
   ⟨(some 26), .extract (.t 19) 2, none, 31⟩,
   ⟨(some 10), .mv (.t 24), none, 63⟩,
   ⟨(some 11), .mv (.t 25), none, 383⟩,
   ⟨(some 12), .mv (.t 26), none, 1023⟩] false)
 (.seq (.seq (.reg [⟨(some 27), .mv (.t 12), none, 0⟩,
   ⟨(some 28), .bin .neq (.t 27) (.c (.pv (.int .i64 (0)))), none, 1⟩] false)
 (.cond (.t 28)
  (.seq (.reg [⟨(some 29), .build [.pv (.int .i64 (0)), .pv (.bool false), .pv (.int .i64 (0)), .pv (.str []), .pv (.int .i64 (0)), .pv (.int .i64 (0)), .pv (.int .i64 (0))] [], none, 0⟩,
    ⟨(some 30), .mv (.t 12), none, 0⟩,
    ⟨(some 6), .mv (.c (.emp 7)), none, 0⟩,
    ⟨none, .store 7 (.t 7) (.t 29), none, 5⟩,
    ⟨(some 8), .mv (.t 30), none, 15⟩] false)
  (.ret))
  (.skip)))
 (.seq (.reg [⟨(some 31), .mv (.t 10), none, 0⟩,
   ⟨(some 32), .mv (.t 1), none, 0⟩,
   ⟨(some 33), .mv (.t 11), none, 0⟩,
   ⟨(some 34), .mv (.t 2), none, 0⟩,
   ⟨(some 35), .slen (.t 34), none, 8⟩,
   ⟨(some 36), .build [.pv (.int .i64 (0)), .pv (.bool false), .pv (.int .i64 (0)), .pv (.str []), .pv (.int .i64 (0)), .pv (.int .i64 (0)), .pv (.int .i64 (0))] [(0, 1, .c (.pv (.int .i64 (7)))), (1, 1, .t 32), (4, 1, .t 33), (6, 1, .t 35)], none, 30⟩,
   ⟨(some 6), .mv (.t 31), none, 1⟩,
   ⟨none, .store 7 (.t 7) (.t 36), none, 127⟩,
   ⟨(some 8), .mv (.c (.pv (.int .i64 (0)))), none, 255⟩] false)
 (.ret))))))⟩
def c29 : RFn := ⟨1, 5, [.cell 2 true 7],
 .seq (.reg [⟨(some 2), .alloc [.pv (.int .i64 (0)), .pv (.bool false), .pv (.int .i64 (0)), .pv (.str []), .pv (.int .i64 (0)), .pv (.int .i64 (0)), .pv (.int .i64 (0))], none, 0⟩] false)
 (.seq (.reg [⟨(some 3), .mv (.t 0), none, 0⟩,
   ⟨(some 4), .build [.pv (.int .i64 (0)), .pv (.bool false), .pv (.int .i64 (0)), .pv (.str []), .pv (.int .i64 (0)), .pv (.int .i64 (0)), .pv (.int .i64 (0))] [(0, 1, .c (.pv (.int .i64 (10)))), (1, 1, .c (.pv (.bool true))), (3, 1, .t 3)], none, 1⟩,
   ⟨none, .store 7 (.t 2) (.t 4), none, 3⟩] false)
 (.ret))⟩
def c30 : RFn := ⟨4, 84, [.tmp 8, .tmp 9],
 .seq (.reg [⟨(some 5), .box 7 (.t 1), none, 0⟩,
   ⟨(some 6), .box 7 (.t 2), none, 0⟩,
   ⟨(some 7), .box 7 (.t 3), none, 0⟩,
   ⟨(some 8), .mv (.c (.emp 7)), none, 0⟩,
   ⟨(some 9), .mv (.c (.pv (.int .i64 (0)))), none, 8⟩] false)
 (.seq (.reg [⟨(some 15), .mv (.t 0), none, 0⟩,
   ⟨(some 16), .load true 7 (.t 5), none, 0⟩,
   ⟨(some 17), .bsl 1 1 [.pv (.int .i64 (0))] [(0, .c (.pv (.int .i64 (9))))], none, 0⟩,
   ⟨(some 18), .call (.f 39) [.t 15, .t 16, .t 17], none, 7⟩,
   ⟨(some 14), .mv (.t 18), none, 15⟩,
   ⟨(some 19), .extract (.t 14) 0, none, 31⟩,
   ⟨(some 20), .extract (.t 14) 1, none, 31⟩,
   ⟨(some 10), .alloc [.emp 7, .pv (.int .i64 (0)), .pv (.bool false), .pv (.int .i64 (0)), .pv (.str []), .pv (.int .i64 (0)), .pv (.int .i64 (0)), .pv (.int .i64 (0))], none, 0⟩,
   ⟨none, .store 8 (.t 10) (.t 19), none, 191⟩,
   ⟨(some 11), .mv (.t 20), none, 511⟩] false)
 (.seq (.seq (.reg [⟨(some 21), .mv (.t 11), none, 0⟩,
   ⟨(some 22), .bin .neq (.t 21) (.c (.pv (.int .i64 (0)))), none, 1⟩] false)
 (.cond (.t 22)
  (.seq (.reg [⟨(some 23), .mv (.t 11), none, 0⟩,
    ⟨(some 8), .mv (.c (.emp 7)), none, 0⟩,
    ⟨(some 9), .mv (.t 23), none, 3⟩] false)
  (.ret))
  (.skip)))
 (.seq (.reg [⟨(some 24), .load true 8 (.t 10), none, 0⟩,
   ⟨(some 25), .call (.f 40) [.t 24], none, 1⟩,
   ⟨(some 12), .alloc [.pv (.int .i64 (0)), .pv (.str []), .emp 7, .emp 7, .emp 7, .pv (.int .i64 (0)), .pv (.int .i64 (0))], none, 0⟩,
   ⟨none, .store 7 (.t 12) (.t 25), none, 7⟩] false)
 (.seq (.seq (.reg [⟨(some 26), .faddr (.t 12) 3, none, 0⟩,
   ⟨(some 27), .load false 1 (.t 26), none, 1⟩,
   ⟨(some 28), .load true 7 (.t 6), none, 0⟩,
   ⟨(some 29), .call (.f 45) [.t 27, .t 28], none, 7⟩,
   ⟨(some 13), .mv (.t 29), none, 15⟩] false)
 (.seq (.reg [⟨(some 30), .mv (.t 13), none, 0⟩,
   ⟨(some 31), .bin .geq (.t 30) (.c (.pv (.int .i64 (0)))), none, 1⟩,
   ⟨(some 32), .mv (.t 31), none, 3⟩,
   ⟨(some 33), .mv (.t 13), (some (32, true)), 7⟩,
   ⟨(some 34), .faddr (.t 12) 4, (some (32, true)), 7⟩,
   ⟨(some 35), .load false 1 (.t 34), (some (32, true)), 23⟩,
   ⟨(some 36), .slen (.t 35), (some (32, true)), 55⟩,
   ⟨(some 37), .bin .lss (.t 33) (.t 36), (some (32, true)), 127⟩,
   ⟨(some 38), .pick (.t 32) (.t 37) (.c (.pv (.bool false))), none, 255⟩] false)
 (.cond (.t 38)
  (.seq (.reg [⟨(some 39), .faddr (.t 12) 4, none, 0⟩,
    ⟨(some 40), .load false 1 (.t 39), none, 1⟩,
    ⟨(some 41), .mv (.t 13), none, 0⟩,
    ⟨(some 42), .load true 7 (.t 7), none, 0⟩,
    ⟨(some 43), .bsl 7 1 [.pv (.int .i64 (0)), .pv (.bool false), .pv (.int .i64 (0)), .pv (.str []), .pv (.int .i64 (0)), .pv (.int .i64 (0)), .pv (.int .i64 (0))] [(0, .t 42)], none, 8⟩,
    ⟨(some 44), .call (.f 50) [.t 40, .t 41, .t 43], none, 31⟩,
    ⟨(some 45), .faddr (.t 12) 4, none, 63⟩,
    ⟨none, .store 1 (.t 45) (.t 44), none, 127⟩] false)
  (.seq (.reg [⟨(some 46), .load true 8 (.t 10), none, 0⟩,
    ⟨(some 47), .load true 7 (.t 12), none, 0⟩,
    ⟨(some 48), .call (.f 51) [.t 46, .t 47], none, 3⟩,
    ⟨(some 8), .mv (.t 48), none, 7⟩,
    ⟨(some 9), .mv (.c (.pv (.int .i64 (0)))), none, 15⟩] false)
  (.ret)))
  (.skip))))
 (.seq (.seq (.reg [⟨(some 49), .faddr (.t 12) 3, none, 0⟩,
   ⟨(some 50), .load false 1 (.t 49), none, 1⟩,
   ⟨(some 51), .slen (.t 50), none, 3⟩,
   ⟨(some 52), .faddr (.t 12) 5, none, 0⟩,
   ⟨(some 53), .load false 1 (.t 52), none, 8⟩,
   ⟨(some 54), .bin .geq (.t 51) (.t 53), none, 31⟩] false)
 (.cond (.t 54)
  (.seq (.reg [⟨(some 8), .mv (.c (.emp 7)), none, 0⟩,
    ⟨(some 9), .mv (.c (.pv (.int .i64 (30)))), none, 1⟩] false)
  (.ret))
  (.skip)))
 (.seq (.reg [⟨(some 55), .faddr (.t 12) 3, none, 0⟩,
   ⟨(some 56), .load false 1 (.t 55), none, 1⟩,
   ⟨(some 57), .faddr (.t 12) 3, none, 0⟩,
   ⟨(some 58), .load false 1 (.t 57), none, 4⟩,
   ⟨(some 59), .slen (.t 58), none, 12⟩,
   ⟨(some 60), .faddr (.t 12) 3, none, 0⟩,
   ⟨(some 61), .load false 1 (.t 60), none, 32⟩,
   ⟨(some 62), .slen (.t 61), none, 96⟩,
   ⟨(some 63), .slice 7 (.t 56) none (some (.t 59)) (some (.t 62)), none, 255⟩,
   ⟨(some 64), .load true 7 (.t 6), none, 0⟩,
   ⟨(some 65), .bsl 7 1 [.pv (.int .i64 (0)), .pv (.bool false), .pv (.int .i64 (0)), .pv (.str []), .pv (.int .i64 (0)), .pv (.int .i64 (0)), .pv (.int .i64 (0))] [(0, .t 64)], none, 512⟩,
   ⟨(some 66), .append 7 64 (.t 63) (.t 65), none, 2047⟩,
   ⟨(some 67), .faddr (.t 12) 3, none, 4095⟩,
   ⟨none, .store 1 (.t 67) (.t 66), none, 8191⟩] true)
 (.seq (.reg [⟨(some 68), .faddr (.t 12) 4, none, 0⟩,
   ⟨(some 69), .load false 1 (.t 68), none, 1⟩,
   ⟨(some 70), .faddr (.t 12) 4, none, 0⟩,
   ⟨(some 71), .load false 1 (.t 70), none, 4⟩,
   ⟨(some 72), .slen (.t 71), none, 12⟩,
   ⟨(some 73), .faddr (.t 12) 4, none, 0⟩,
   ⟨(some 74), .load false 1 (.t 73), none, 32⟩,
   ⟨(some 75), .slen (.t 74), none, 96⟩,
   ⟨(some 76), .slice 7 (.t 69) none (some (.t 72)) (some (.t 75)), none, 255⟩,
   ⟨(some 77), .load true 7 (.t 7), none, 0⟩,
   ⟨(some 78), .bsl 7 1 [.pv (.int .i64 (0)), .pv (.bool false), .pv (.int .i64 (0)), .pv (.str []), .pv (.int .i64 (0)), .pv (.int .i64 (0)), .pv (.int .i64 (0))] [(0, .t 77)], none, 512⟩,
   ⟨(some 79), .append 7 64 (.t 76) (.t 78), none, 2047⟩,
   ⟨(some 80), .faddr (.t 12) 4, none, 4095⟩,
   ⟨none, .store 1 (.t 80) (.t 79), none, 8191⟩] true)
 (.seq (.reg [⟨(some 81), .load true 8 (.t 10), none, 0⟩,
   ⟨(some 82), .load true 7 (.t 12), none, 0⟩,
   ⟨(some 83), .call (.f 51) [.t 81, .t 82], none, 3⟩,
   ⟨(some 8), .mv (.t 83), none, 7⟩,
   ⟨(some 9), .mv (.c (.pv (.int .i64 (0)))), none, 15⟩] false)
 (.ret)))))))))⟩
def c31 : RFn := ⟨1, 8, [.cell 2 true 7],
 .seq (.reg [⟨(some 2), .alloc [.pv (.int .i64 (0)), .pv (.bool false), .pv (.int .i64 (0)), .pv (.str []), .pv (.int .i64 (0)), .pv (.int .i64 (0)), .pv (.int .i64 (0))], none, 0⟩] false)
 (.seq (.reg [⟨(some 4), .build [.pv (.int .i64 (0)), .pv (.bool false), .pv (.int .i64 (0)), .pv (.str []), .pv (.int .i64 (0)), .pv (.int .i64 (0)), .pv (.int .i64 (0))] [(0, 1, .c (.pv (.int .i64 (2))))], none, 0⟩,
   ⟨(some 3), .alloc [.pv (.int .i64 (0)), .pv (.bool false), .pv (.int .i64 (0)), .pv (.str []), .pv (.int .i64 (0)), .pv (.int .i64 (0)), .pv (.int .i64 (0))], none, 0⟩,
   ⟨none, .store 7 (.t 3) (.t 4), none, 3⟩] false)
 (.seq (.seq (.reg [⟨(some 5), .mv (.t 0), none, 0⟩] false)
 (.cond (.t 5)
  (.reg [⟨(some 6), .faddr (.t 3) 2, none, 0⟩,
    ⟨none, .store 1 (.t 6) (.c (.pv (.int .i64 (1)))), none, 1⟩] false)
  (.skip)))
 (.seq (.reg [⟨(some 7), .load true 7 (.t 3), none, 0⟩,
   ⟨none, .store 7 (.t 2) (.t 7), none, 1⟩] false)
 (.ret))))⟩
def c32 : RFn := ⟨1, 5, [.cell 2 true 7],
 .seq (.reg [⟨(some 2), .alloc [.pv (.int .i64 (0)), .pv (.str []), .emp 7, .emp 7, .emp 7, .pv (.int .i64 (0)), .pv (.int .i64 (0))], none, 0⟩] false)
 (.seq (.reg [⟨(some 3), .mv (.t 0), none, 0⟩,
   ⟨(some 4), .build [.pv (.int .i64 (0)), .pv (.str []), .emp 7, .emp 7, .emp 7, .pv (.int .i64 (0)), .pv (.int .i64 (0))] [(0, 1, .c (.pv (.int .i64 (3)))), (5, 1, .t 3)], none, 1⟩,
   ⟨none, .store 7 (.t 2) (.t 4), none, 3⟩] false)
 (.ret))⟩
def c33 : RFn := ⟨1, 5, [.cell 2 true 7],
 .seq (.reg [⟨(some 2), .alloc [.pv (.int .i64 (0)), .pv (.bool false), .pv (.int .i64 (0)), .pv (.str []), .pv (.int .i64 (0)), .pv (.int .i64 (0)), .pv (.int .i64 (0))], none, 0⟩] false)
 (.seq (.reg [⟨(some 3), .mv (.t 0), none, 0⟩,
   ⟨(some 4), .build [.pv (.int .i64 (0)), .pv (.bool false), .pv (.int .i64 (0)), .pv (.str []), .pv (.int .i64 (0)), .pv (.int .i64 (0)), .pv (.int .i64 (0))] [(0, 1, .c (.pv (.int .i64 (5)))), (3, 1, .t 3)], none, 1⟩,
   ⟨none, .store 7 (.t 2) (.t 4), none, 3⟩] false)
 (.ret))⟩
def c34 : RFn := ⟨0, 2, [.tmp 0],
 .seq (.reg [⟨(some 0), .mv (.c (.emp 1)), none, 0⟩] false)
 (.seq (.reg [⟨(some 1), .bsl 1 5 [.pv (.str [])] [(0, .c (.pv (.str [70, 111, 110, 116]))), (1, .c (.pv (.str [80, 97, 116, 116, 101, 114, 110]))), (2, .c (.pv (.str [69, 110, 99, 111, 100, 105, 110, 103]))), (3, .c (.pv (.str [70, 111, 114, 109]))), (4, .c (.pv (.str [71, 101, 110, 101, 114, 105, 99])))], none, 0⟩,
   ⟨(some 0), .mv (.t 1), none, 1⟩] false)
 (.ret))⟩
def c35 : RFn := ⟨1, 20, [.tmp 2],
 .seq (.reg [⟨(some 1), .box 7 (.t 0), none, 0⟩,
   ⟨(some 2), .mv (.c (.pv (.int .i64 (0)))), none, 0⟩] false)
 (.seq (.seq (.reg [⟨(some 3), .faddr (.t 1) 0, none, 0⟩,
   ⟨(some 4), .load false 1 (.t 3), none, 1⟩,
   ⟨(some 5), .bin .eql (.t 4) (.c (.pv (.int .i64 (3)))), none, 3⟩] false)
 (.cond (.t 5)
  (.seq (.reg [⟨(some 6), .faddr (.t 1) 5, none, 0⟩,
    ⟨(some 7), .load false 1 (.t 6), none, 1⟩,
    ⟨(some 8), .mm false [.t 7, .c (.pv (.int .i64 (200)))], none, 3⟩,
    ⟨(some 9), .mm true [.c (.pv (.int .i64 (0))), .t 8], none, 7⟩,
    ⟨(some 10), .bin .mul (.c (.pv (.int .i64 (2)))) (.t 9), none, 15⟩,
    ⟨(some 11), .bin .add (.c (.pv (.int .i64 (1)))) (.t 10), none, 31⟩,
    ⟨(some 2), .mv (.t 11), none, 63⟩] false)
  (.ret))
  (.skip)))
 (.seq (.reg [⟨(some 12), .faddr (.t 1) 1, none, 0⟩,
   ⟨(some 13), .load false 1 (.t 12), none, 1⟩,
   ⟨(some 14), .strlen (.t 13), none, 3⟩,
   ⟨(some 15), .bin .add (.c (.pv (.int .i64 (1)))) (.t 14), none, 7⟩,
   ⟨(some 16), .faddr (.t 1) 2, none, 0⟩,
   ⟨(some 17), .load false 1 (.t 16), none, 16⟩,
   ⟨(some 18), .slen (.t 17), none, 48⟩,
   ⟨(some 19), .bin .add (.t 15) (.t 18), none, 127⟩,
   ⟨(some 2), .mv (.t 19), none, 255⟩] false)
 (.ret)))⟩
def c36 : RFn := ⟨2, 74, [.tmp 4],
 .seq (.reg [⟨(some 2), .box 1 (.t 0), none, 0⟩,
   ⟨(some 3), .box 7 (.t 1), none, 0⟩,
   ⟨(some 4), .mv (.c (.pv (.bool false))), none, 0⟩] false)
 (.seq (.reg [⟨(some 7), .faddr (.t 3) 2, none, 0⟩,
   ⟨(some 8), .load false 1 (.t 7), none, 1⟩,
   ⟨(some 9), .slen (.t 8), none, 3⟩,
   ⟨(some 10), .faddr (.t 3) 3, none, 0⟩,
   ⟨(some 11), .load false 1 (.t 10), none, 8⟩,
   ⟨(some 12), .slen (.t 11), none, 24⟩,
   ⟨(some 13), .faddr (.t 3) 4, none, 0⟩,
   ⟨(some 14), .load false 1 (.t 13), none, 64⟩,
   ⟨(some 15), .slen (.t 14), none, 192⟩,
   ⟨(some 16), .bin .add (.t 12) (.t 15), none, 504⟩,
   ⟨(some 5), .mv (.t 9), none, 7⟩,
   ⟨(some 6), .mv (.t 16), none, 2047⟩] true)
 (.seq (.seq (.reg [⟨(some 17), .faddr (.t 3) 0, none, 0⟩,
   ⟨(some 18), .load false 1 (.t 17), none, 1⟩] false)
 (.block 0
  (.seq (.reg [⟨(some 20), .bin .eql (.t 18) (.c (.pv (.int .i64 (1)))), none, 0⟩,
    ⟨(some 19), .mv (.t 20), none, 1⟩] false)
  (.cond (.t 19)
   (.seq (.reg [⟨(some 21), .mv (.t 5), none, 0⟩,
     ⟨(some 22), .mv (.t 6), none, 0⟩,
     ⟨(some 23), .bin .add (.t 21) (.t 22), none, 3⟩,
     ⟨(some 24), .bin .eql (.t 23) (.c (.pv (.int .i64 (0)))), none, 7⟩,
     ⟨(some 25), .mv (.t 24), none, 15⟩,
     ⟨(some 26), .faddr (.t 3) 5, (some (25, true)), 31⟩,
     ⟨(some 27), .load false 1 (.t 26), (some (25, true)), 63⟩,
     ⟨(some 28), .bin .eql (.t 27) (.c (.pv (.int .i64 (0)))), (some (25, true)), 127⟩,
     ⟨(some 29), .pick (.t 25) (.t 28) (.c (.pv (.bool false))), none, 255⟩,
     ⟨(some 30), .mv (.t 29), none, 511⟩,
     ⟨(some 31), .faddr (.t 3) 6, (some (30, true)), 1023⟩,
     ⟨(some 32), .load false 1 (.t 31), (some (30, true)), 2047⟩,
     ⟨(some 33), .bin .eql (.t 32) (.c (.pv (.int .i64 (0)))), (some (30, true)), 4095⟩,
     ⟨(some 34), .pick (.t 30) (.t 33) (.c (.pv (.bool false))), none, 8191⟩,
     ⟨(some 4), .mv (.t 34), none, 16383⟩] false)
   (.ret))
   (.seq (.reg [⟨(some 36), .bin .eql (.t 18) (.c (.pv (.int .i64 (2)))), none, 0⟩,
     ⟨(some 35), .mv (.t 36), none, 1⟩] false)
   (.cond (.t 35)
    (.seq (.reg [⟨(some 37), .faddr (.t 3) 1, none, 0⟩,
      ⟨(some 38), .load false 1 (.t 37), none, 1⟩,
      ⟨(some 39), .bin .eql (.t 38) (.c (.pv (.str []))), none, 3⟩,
      ⟨(some 40), .mv (.t 39), none, 7⟩,
      ⟨(some 41), .mv (.t 6), (some (40, true)), 15⟩,
      ⟨(some 42), .bin .eql (.t 41) (.c (.pv (.int .i64 (0)))), (some (40, true)), 31⟩,
      ⟨(some 43), .pick (.t 40) (.t 42) (.c (.pv (.bool false))), none, 63⟩,
      ⟨(some 44), .mv (.t 43), none, 127⟩,
      ⟨(some 45), .faddr (.t 3) 5, (some (44, true)), 255⟩,
      ⟨(some 46), .load false 1 (.t 45), (some (44, true)), 511⟩,
      ⟨(some 47), .bin .eql (.t 46) (.c (.pv (.int .i64 (0)))), (some (44, true)), 1023⟩,
      ⟨(some 48), .pick (.t 44) (.t 47) (.c (.pv (.bool false))), none, 2047⟩,
      ⟨(some 49), .mv (.t 48), none, 4095⟩,
      ⟨(some 50), .faddr (.t 3) 6, (some (49, true)), 8191⟩,
      ⟨(some 51), .load false 1 (.t 50), (some (49, true)), 16383⟩,
      ⟨(some 52), .bin .eql (.t 51) (.c (.pv (.int .i64 (0)))), (some (49, true)), 32767⟩,
      ⟨(some 53), .pick (.t 49) (.t 52) (.c (.pv (.bool false))), none, 65535⟩,
      ⟨(some 4), .mv (.t 53), none, 131071⟩] false)
    (.ret))
    (.seq (.reg [⟨(some 55), .bin .eql (.t 18) (.c (.pv (.int .i64 (3)))), none, 0⟩,
      ⟨(some 54), .mv (.t 55), none, 1⟩] false)
    (.cond (.t 54)
     (.seq (.reg [⟨(some 56), .faddr (.t 3) 1, none, 0⟩,
       ⟨(some 57), .load false 1 (.t 56), none, 1⟩,
       ⟨(some 58), .bin .eql (.t 57) (.c (.pv (.str []))), none, 3⟩,
       ⟨(some 59), .mv (.t 58), none, 7⟩,
       ⟨(some 60), .mv (.t 5), (some (59, true)), 15⟩,
       ⟨(some 61), .bin .eql (.t 60) (.c (.pv (.int .i64 (0)))), (some (59, true)), 31⟩,
       ⟨(some 62), .pick (.t 59) (.t 61) (.c (.pv (.bool false))), none, 63⟩,
       ⟨(some 63), .mv (.t 62), none, 127⟩,
       ⟨(some 64), .faddr (.t 3) 6, (some (63, true)), 255⟩,
       ⟨(some 65), .load false 1 (.t 64), (some (63, true)), 511⟩,
       ⟨(some 66), .bin .eql (.t 65) (.c (.pv (.int .i64 (0)))), (some (63, true)), 1023⟩,
       ⟨(some 67), .pick (.t 63) (.t 66) (.c (.pv (.bool false))), none, 2047⟩,
       ⟨(some 4), .mv (.t 67), none, 4095⟩] false)
     (.ret))
     (.seq (.reg [⟨(some 69), .bin .eql (.t 18) (.c (.pv (.int .i64 (4)))), none, 0⟩,
       ⟨(some 68), .mv (.t 69), none, 1⟩] false)
     (.cond (.t 68)
      (.seq (.reg [⟨(some 70), .mv (.t 5), none, 0⟩,
        ⟨(some 71), .mv (.t 6), none, 0⟩,
        ⟨(some 72), .bin .add (.t 70) (.t 71), none, 3⟩,
        ⟨(some 73), .bin .eql (.t 72) (.c (.pv (.int .i64 (0)))), none, 7⟩,
        ⟨(some 4), .mv (.t 73), none, 15⟩] false)
      (.ret))
      (.skip)))))))))))
 (.seq (.reg [⟨(some 4), .mv (.c (.pv (.bool false))), none, 0⟩] false)
 (.ret))))⟩
def c37 : RFn := ⟨2, 73, [.tmp 4],
 .seq (.reg [⟨(some 2), .box 1 (.t 0), none, 0⟩,
   ⟨(some 3), .box 7 (.t 1), none, 0⟩,
   ⟨(some 4), .mv (.c (.pv (.bool false))), none, 0⟩] false)
 (.seq (.seq (.reg [⟨(some 5), .faddr (.t 3) 0, none, 0⟩,
   ⟨(some 6), .load false 1 (.t 5), none, 1⟩] false)
 (.block 0
  (.seq (.reg [⟨(some 8), .bin .eql (.t 6) (.c (.pv (.int .i64 (1)))), none, 0⟩,
    ⟨(some 7), .mv (.t 8), none, 1⟩] false)
  (.cond (.t 7)
   (.seq (.reg [⟨(some 9), .faddr (.t 3) 1, none, 0⟩,
     ⟨(some 10), .load false 1 (.t 9), none, 1⟩,
     ⟨(some 11), .strlen (.t 10), none, 3⟩,
     ⟨(some 12), .bin .leq (.t 11) (.c (.pv (.int .i64 (1000)))), none, 7⟩,
     ⟨(some 4), .mv (.t 12), none, 15⟩] false)
   (.ret))
   (.seq (.reg [⟨(some 14), .bin .eql (.t 6) (.c (.pv (.int .i64 (2)))), none, 0⟩,
     ⟨(some 13), .mv (.t 14), none, 1⟩] false)
   (.cond (.t 13)
    (.seq (.reg [⟨(some 15), .faddr (.t 3) 2, none, 0⟩,
      ⟨(some 16), .load false 1 (.t 15), none, 1⟩,
      ⟨(some 17), .slen (.t 16), none, 3⟩,
      ⟨(some 18), .bin .leq (.t 17) (.c (.pv (.int .i64 (1000)))), none, 7⟩,
      ⟨(some 4), .mv (.t 18), none, 15⟩] false)
    (.ret))
    (.seq (.reg [⟨(some 20), .bin .eql (.t 6) (.c (.pv (.int .i64 (3)))), none, 0⟩,
      ⟨(some 19), .mv (.t 20), none, 1⟩] false)
    (.cond (.t 19)
     (.seq (.reg [⟨(some 21), .faddr (.t 3) 5, none, 0⟩,
       ⟨(some 22), .load false 1 (.t 21), none, 1⟩,
       ⟨(some 23), .bin .geq (.t 22) (.c (.pv (.int .i64 (0)))), none, 3⟩,
       ⟨(some 24), .mv (.t 23), none, 7⟩,
       ⟨(some 25), .faddr (.t 3) 5, (some (24, true)), 15⟩,
       ⟨(some 26), .load false 1 (.t 25), (some (24, true)), 31⟩,
       ⟨(some 27), .bin .leq (.t 26) (.c (.pv (.int .i64 (200)))), (some (24, true)), 63⟩,
       ⟨(some 28), .pick (.t 24) (.t 27) (.c (.pv (.bool false))), none, 127⟩,
       ⟨(some 29), .mv (.t 28), none, 255⟩,
       ⟨(some 30), .faddr (.t 3) 3, (some (29, true)), 511⟩,
       ⟨(some 31), .load false 1 (.t 30), (some (29, true)), 1023⟩,
       ⟨(some 32), .slen (.t 31), (some (29, true)), 2047⟩,
       ⟨(some 33), .faddr (.t 3) 4, (some (29, true)), 511⟩,
       ⟨(some 34), .load false 1 (.t 33), (some (29, true)), 4607⟩,
       ⟨(some 35), .slen (.t 34), (some (29, true)), 12799⟩,
       ⟨(some 36), .bin .eql (.t 32) (.t 35), (some (29, true)), 32767⟩,
       ⟨(some 37), .pick (.t 29) (.t 36) (.c (.pv (.bool false))), none, 65535⟩,
       ⟨(some 38), .mv (.t 37), none, 131071⟩,
       ⟨(some 39), .faddr (.t 3) 3, (some (38, true)), 262143⟩,
       ⟨(some 40), .load false 1 (.t 39), (some (38, true)), 524287⟩,
       ⟨(some 41), .slen (.t 40), (some (38, true)), 1048575⟩,
       ⟨(some 42), .faddr (.t 3) 5, (some (38, true)), 262143⟩,
       ⟨(some 43), .load false 1 (.t 42), (some (38, true)), 2359295⟩,
       ⟨(some 44), .bin .leq (.t 41) (.t 43), (some (38, true)), 8388607⟩,
       ⟨(some 45), .pick (.t 38) (.t 44) (.c (.pv (.bool false))), none, 16777215⟩,
       ⟨(some 4), .mv (.t 45), none, 33554431⟩] false)
     (.ret))
     (.skip)))))))))
 (.seq (.reg [⟨(some 46), .faddr (.t 3) 1, none, 0⟩,
   ⟨(some 47), .load false 1 (.t 46), none, 1⟩,
   ⟨(some 48), .strlen (.t 47), none, 3⟩,
   ⟨(some 49), .bin .leq (.t 48) (.c (.pv (.int .i64 (4000)))), none, 7⟩,
   ⟨(some 50), .mv (.t 49), none, 15⟩,
   ⟨(some 51), .faddr (.t 3) 6, (some (50, true)), 31⟩,
   ⟨(some 52), .load false 1 (.t 51), (some (50, true)), 63⟩,
   ⟨(some 53), .bin .geq (.t 52) (.c (.pv (.int .i64 (0)))), (some (50, true)), 127⟩,
   ⟨(some 54), .pick (.t 50) (.t 53) (.c (.pv (.bool false))), none, 255⟩,
   ⟨(some 55), .mv (.t 54), none, 511⟩,
   ⟨(some 56), .faddr (.t 3) 6, (some (55, true)), 1023⟩,
   ⟨(some 57), .load false 1 (.t 56), (some (55, true)), 2047⟩,
   ⟨(some 58), .faddr (.t 3) 1, (some (55, true)), 1023⟩,
   ⟨(some 59), .load false 1 (.t 58), (some (55, true)), 5119⟩,
   ⟨(some 60), .strlen (.t 59), (some (55, true)), 13311⟩,
   ⟨(some 61), .bin .leq (.t 57) (.t 60), (some (55, true)), 32767⟩,
   ⟨(some 62), .pick (.t 55) (.t 61) (.c (.pv (.bool false))), none, 65535⟩,
   ⟨(some 63), .mv (.t 62), none, 131071⟩,
   ⟨(some 64), .faddr (.t 3) 5, (some (63, true)), 262143⟩,
   ⟨(some 65), .load false 1 (.t 64), (some (63, true)), 524287⟩,
   ⟨(some 66), .bin .eql (.t 65) (.c (.pv (.int .i64 (0)))), (some (63, true)), 1048575⟩,
   ⟨(some 67), .mv (.t 66), (some (63, true)), 2097151⟩,
   ⟨(some 68), .faddr (.t 3) 5, (some (67, false)), 4194303⟩,
   ⟨(some 69), .load false 1 (.t 68), (some (67, false)), 8388607⟩,
   ⟨(some 70), .bin .eql (.t 69) (.c (.pv (.int .i64 (1)))), (some (67, false)), 16777215⟩,
   ⟨(some 71), .pick (.t 67) (.c (.pv (.bool true))) (.t 70), (some (63, true)), 33554431⟩,
   ⟨(some 72), .pick (.t 63) (.t 71) (.c (.pv (.bool false))), none, 67108863⟩,
   ⟨(some 4), .mv (.t 72), none, 134217727⟩] false)
 (.ret)))⟩
def c38 : RFn := ⟨2, 47, [.cell 4 false 1],
 .seq (.reg [⟨(some 2), .box 1 (.t 0), none, 0⟩,
   ⟨(some 3), .box 7 (.t 1), none, 0⟩,
   ⟨(some 4), .alloc [.pv (.bool false)], none, 0⟩] false)
 (.seq (.seq (.reg [⟨(some 10), .load true 7 (.t 3), none, 0⟩,
   ⟨(some 11), .call (.f 52) [.t 10], none, 1⟩] false)
 (.block 0
  (.rng (.t 11) [12]
   (.reg [⟨(some 5), .alloc [.pv (.int .i64 (0)), .pv (.bool false), .pv (.int .i64 (0)), .pv (.str []), .pv (.int .i64 (0)), .pv (.int .i64 (0)), .pv (.int .i64 (0))], none, 0⟩,
     ⟨none, .store 7 (.t 5) (.t 12), none, 1⟩] false)
   (.block 1
    (.seq (.reg [⟨(some 13), .faddr (.t 2) 0, none, 0⟩,
      ⟨(some 14), .load false 1 (.t 13), none, 1⟩,
      ⟨(some 15), .load true 7 (.t 5), none, 0⟩,
      ⟨(some 16), .call (.f 26) [.t 14, .t 15], none, 7⟩,
      ⟨(some 17), .not (.t 16), none, 15⟩] false)
    (.cond (.t 17)
     (.seq (.reg [⟨none, .store 1 (.t 4) (.c (.pv (.bool false))), none, 0⟩] false)
     (.ret))
     (.skip)))))))
 (.seq (.seq (.reg [⟨(some 18), .faddr (.t 3) 3, none, 0⟩,
   ⟨(some 19), .load false 1 (.t 18), none, 1⟩,
   ⟨(some 20), .slen (.t 19), none, 3⟩,
   ⟨(some 21), .mv (.c (.pv (.int .i64 (0)))), none, 0⟩] false)
 (.block 2
  (.loop [3, 4, 19, 20, 21]
   (.seq (.reg [⟨(some 22), .bin .lss (.t 21) (.t 20), none, 0⟩] false)
   (.seq (.cond (.t 22)
    (.skip)
    (.exit 2))
   (.seq (.block 3
    (.seq (.reg [⟨(some 23), .mv (.t 21), none, 0⟩,
      ⟨(some 24), .iaddr 7 (.t 19) (.t 21), none, 0⟩,
      ⟨(some 25), .load true 7 (.t 24), none, 2⟩,
      ⟨(some 7), .alloc [.pv (.int .i64 (0)), .pv (.bool false), .pv (.int .i64 (0)), .pv (.str []), .pv (.int .i64 (0)), .pv (.int .i64 (0)), .pv (.int .i64 (0))], none, 0⟩,
      ⟨(some 6), .mv (.t 23), none, 15⟩,
      ⟨none, .store 7 (.t 7) (.t 25), none, 31⟩] false)
    (.seq (.reg [⟨(some 27), .load true 7 (.t 7), none, 0⟩,
      ⟨(some 28), .call (.f 53) [.t 27], none, 1⟩,
      ⟨(some 26), .mv (.t 28), none, 3⟩,
      ⟨(some 29), .extract (.t 26) 0, none, 7⟩,
      ⟨(some 30), .extract (.t 26) 1, none, 7⟩,
      ⟨(some 8), .alloc [.pv (.int .i64 (0)), .pv (.bool false), .pv (.int .i64 (0)), .pv (.str []), .pv (.int .i64 (0)), .pv (.int .i64 (0)), .pv (.int .i64 (0))], none, 0⟩,
      ⟨none, .store 7 (.t 8) (.t 29), none, 47⟩,
      ⟨(some 9), .mv (.t 30), none, 127⟩] false)
    (.seq (.reg [⟨(some 31), .mv (.t 9), none, 0⟩,
      ⟨(some 32), .bin .neq (.t 31) (.c (.pv (.int .i64 (0)))), none, 1⟩,
      ⟨(some 33), .mv (.t 32), none, 3⟩,
      ⟨(some 34), .load true 7 (.t 8), (some (33, false)), 7⟩,
      ⟨(some 35), .load true 7 (.t 7), (some (33, false)), 7⟩,
      ⟨(some 36), .eqs true [0, 1, 0, 2, 0, 0, 0] (.t 34) (.t 35), (some (33, false)), 31⟩,
      ⟨(some 37), .pick (.t 33) (.c (.pv (.bool true))) (.t 36), none, 63⟩,
      ⟨(some 38), .mv (.t 37), none, 127⟩,
      ⟨(some 39), .faddr (.t 3) 3, (some (38, false)), 255⟩,
      ⟨(some 40), .load false 1 (.t 39), (some (38, false)), 511⟩,
      ⟨(some 41), .mv (.t 6), (some (38, false)), 255⟩,
      ⟨(some 42), .slice 7 (.t 40) none (some (.t 41)) none, (some (38, false)), 2047⟩,
      ⟨(some 43), .load true 7 (.t 7), (some (38, false)), 255⟩,
      ⟨(some 44), .call (.f 54) [.t 42, .t 43], (some (38, false)), 8191⟩,
      ⟨(some 45), .pick (.t 38) (.c (.pv (.bool true))) (.t 44), none, 16383⟩] true)
    (.cond (.t 45)
     (.seq (.reg [⟨none, .store 1 (.t 4) (.c (.pv (.bool false))), none, 0⟩] false)
     (.ret))
     (.skip))))))
   (.reg [⟨(some 46), .bin .add (.t 21) (.c (.pv (.int .i64 (1)))), none, 0⟩,
     ⟨(some 21), .mv (.t 46), none, 1⟩] false)))))))
 (.seq (.reg [⟨none, .store 1 (.t 4) (.c (.pv (.bool true))), none, 0⟩] false)
 (.ret))))⟩
def c39 : RFn := ⟨3, 23, [.cell 6 true 8, .tmp 7],
 .seq (.reg [⟨(some 4), .box 7 (.t 1), none, 0⟩,
   ⟨(some 6), .alloc [.emp 7, .pv (.int .i64 (0)), .pv (.bool false), .pv (.int .i64 (0)), .pv (.str []), .pv (.int .i64 (0)), .pv (.int .i64 (0)), .pv (.int .i64 (0))], none, 0⟩,
   ⟨(some 7), .mv (.c (.pv (.int .i64 (0)))), none, 0⟩] false)
 (.seq (.seq (.reg [⟨(some 8), .mv (.t 0), none, 0⟩,
   ⟨(some 9), .load true 7 (.t 4), none, 0⟩,
   ⟨(some 10), .call (.f 26) [.t 8, .t 9], none, 3⟩,
   ⟨(some 11), .not (.t 10), none, 7⟩] false)
 (.cond (.t 11)
  (.seq (.reg [⟨(some 12), .build [.emp 7, .pv (.int .i64 (0)), .pv (.bool false), .pv (.int .i64 (0)), .pv (.str []), .pv (.int .i64 (0)), .pv (.int .i64 (0)), .pv (.int .i64 (0))] [], none, 0⟩,
    ⟨none, .store 8 (.t 6) (.t 12), none, 1⟩,
    ⟨(some 7), .mv (.c (.pv (.int .i64 (2)))), none, 3⟩] false)
  (.ret))
  (.skip)))
 (.seq (.seq (.reg [⟨(some 13), .mv (.t 2), none, 0⟩,
   ⟨(some 14), .faddr (.t 4) 0, none, 0⟩,
   ⟨(some 15), .load false 1 (.t 14), none, 2⟩,
   ⟨(some 16), .call (.f 55) [.t 13, .t 15], none, 7⟩,
   ⟨(some 17), .not (.t 16), none, 15⟩] false)
 (.cond (.t 17)
  (.seq (.reg [⟨(some 18), .build [.emp 7, .pv (.int .i64 (0)), .pv (.bool false), .pv (.int .i64 (0)), .pv (.str []), .pv (.int .i64 (0)), .pv (.int .i64 (0)), .pv (.int .i64 (0))] [], none, 0⟩,
    ⟨none, .store 8 (.t 6) (.t 18), none, 1⟩,
    ⟨(some 7), .mv (.c (.pv (.int .i64 (22)))), none, 3⟩] false)
  (.ret))
  (.skip)))
 (.seq (.reg [⟨(some 19), .mv (.t 0), none, 0⟩,
   ⟨(some 20), .build [.emp 7] [(0, 1, .t 19)], none, 1⟩,
   ⟨(some 21), .load true 7 (.t 4), none, 0⟩,
   ⟨(some 22), .build [.emp 7, .pv (.int .i64 (0)), .pv (.bool false), .pv (.int .i64 (0)), .pv (.str []), .pv (.int .i64 (0)), .pv (.int .i64 (0)), .pv (.int .i64 (0))] [(0, 1, .t 20), (1, 7, .t 21)], none, 7⟩,
   ⟨none, .store 8 (.t 6) (.t 22), none, 15⟩,
   ⟨(some 7), .mv (.c (.pv (.int .i64 (0)))), none, 31⟩] false)
 (.ret))))⟩
def c40 : RFn := ⟨1, 11, [.cell 2 true 7],
 .seq (.reg [⟨(some 1), .box 8 (.t 0), none, 0⟩,
   ⟨(some 2), .alloc [.pv (.int .i64 (0)), .pv (.str []), .emp 7, .emp 7, .emp 7, .pv (.int .i64 (0)), .pv (.int .i64 (0))], none, 0⟩] false)
 (.seq (.reg [⟨(some 3), .faddr (.t 1) 0, none, 0⟩,
   ⟨(some 4), .faddr (.t 3) 0, none, 1⟩,
   ⟨(some 5), .load false 1 (.t 4), none, 3⟩,
   ⟨(some 6), .faddr (.t 1) 1, none, 0⟩,
   ⟨(some 7), .faddr (.t 6) 4, none, 8⟩,
   ⟨(some 8), .load false 1 (.t 7), none, 24⟩,
   ⟨(some 9), .iaddr 7 (.t 5) (.t 8), none, 63⟩,
   ⟨(some 10), .load true 7 (.t 9), none, 127⟩,
   ⟨none, .store 7 (.t 2) (.t 10), none, 255⟩] false)
 (.ret))⟩
def c41 : RFn := ⟨2, 27, [.tmp 4, .tmp 5],
 .seq (.reg [⟨(some 2), .box 67 (.t 0), none, 0⟩,
   ⟨(some 4), .mv (.c (.emp 7)), none, 0⟩,
   ⟨(some 5), .mv (.c (.pv (.int .i64 (0)))), none, 2⟩] false)
 (.seq (.seq (.reg [⟨(some 6), .mv (.t 1), none, 0⟩,
   ⟨(some 7), .bin .lss (.t 6) (.c (.pv (.int .i64 (0)))), none, 1⟩] false)
 (.cond (.t 7)
  (.seq (.reg [⟨(some 4), .mv (.c (.emp 7)), none, 0⟩,
    ⟨(some 5), .mv (.c (.pv (.int .i64 (2)))), none, 1⟩] false)
  (.ret))
  (.skip)))
 (.seq (.seq (.reg [⟨(some 8), .mv (.t 1), none, 0⟩,
   ⟨(some 9), .faddr (.t 2) 0, none, 0⟩,
   ⟨(some 10), .load false 1 (.t 9), none, 2⟩,
   ⟨(some 11), .slen (.t 10), none, 6⟩,
   ⟨(some 12), .bin .gtr (.t 8) (.t 11), none, 15⟩] false)
 (.cond (.t 12)
  (.seq (.reg [⟨(some 4), .mv (.c (.emp 7)), none, 0⟩,
    ⟨(some 5), .mv (.c (.pv (.int .i64 (20)))), none, 1⟩] false)
  (.ret))
  (.skip)))
 (.seq (.reg [⟨(some 13), .faddr (.t 2) 0, none, 0⟩,
   ⟨(some 14), .load false 1 (.t 13), none, 1⟩,
   ⟨(some 15), .faddr (.t 2) 0, none, 0⟩,
   ⟨(some 16), .load false 1 (.t 15), none, 4⟩,
   ⟨(some 17), .slen (.t 16), none, 12⟩,
   ⟨(some 18), .mv (.t 1), none, 0⟩,
   ⟨(some 19), .bin .sub (.t 17) (.t 18), none, 60⟩,
   ⟨(some 20), .faddr (.t 2) 0, none, 0⟩,
   ⟨(some 21), .load false 1 (.t 20), none, 128⟩,
   ⟨(some 22), .slen (.t 21), none, 384⟩,
   ⟨(some 23), .faddr (.t 2) 0, none, 0⟩,
   ⟨(some 24), .load false 1 (.t 23), none, 1024⟩,
   ⟨(some 25), .slen (.t 24), none, 3072⟩,
   ⟨(some 26), .slice 7 (.t 14) (some (.t 19)) (some (.t 22)) (some (.t 25)), none, 8191⟩,
   ⟨(some 4), .mv (.t 26), none, 16383⟩,
   ⟨(some 5), .mv (.c (.pv (.int .i64 (0)))), none, 32767⟩] false)
 (.ret))))⟩
def c42 : RFn := ⟨2, 30, [.cell 4 true 67, .tmp 5],
 .seq (.reg [⟨(some 2), .box 67 (.t 0), none, 0⟩,
   ⟨(some 4), .alloc [.emp 7, .emp 7, .emp 7, .emp 3, .pv (.int .i64 (0)), .pv (.int .i64 (0)), .pv (.int .i64 (0)), .pv (.int .i64 (0)), .pv (.int .i64 (0)), .pv (.int .i64 (0)), .pv (.int .i64 (0)), .emp 7, .pv (.int .i64 (0)), .pv (.int .i64 (0)), .pv (.int .i64 (0)), .pv (.int .i64 (0)), .pv (.int .i64 (0)), .pv (.int .i64 (0)), .pv (.int .i64 (0)), .pv (.int .i64 (0)), .pv (.int .i64 (0)), .pv (.int .i64 (0)), .pv (.int .i64 (0)), .pv (.int .i64 (0)), .pv (.int .i64 (0)), .pv (.int .i64 (0)), .pv (.int .i64 (0)), .pv (.int .i64 (0)), .pv (.int .i64 (0)), .pv (.int .i64 (0)), .pv (.int .i64 (0)), .pv (.int .i64 (0)), .pv (.bool false), .pv (.bool false), .emp 47, .pv (.int .i64 (0)), .pv (.int .i64 (0)), .pv (.int .i64 (0)), .pv (.int .i64 (0)), .pv (.int .i64 (0)), .pv (.int .i64 (0)), .pv (.int .i64 (0)), .pv (.int .i64 (0)), .emp 1, .pv (.int .i64 (0)), .pv (.int .i64 (0)), .emp 2, .pv (.int .i64 (0)), .pv (.bool false), .pv (.int .i64 (0)), .pv (.str []), .pv (.int .i64 (0)), .pv (.int .i64 (0)), .pv (.int .i64 (0)), .pv (.int .i64 (0)), .pv (.int .i64 (0)), .pv (.int .i64 (0)), .pv (.int .i64 (0)), .pv (.int .i64 (0)), .pv (.int .i64 (0)), .pv (.int .i64 (0)), .pv (.int .i64 (0)), .emp 57, .emp 47, .emp 3, .pv (.str []), .pv (.int .i64 (0))], none, 0⟩,
   ⟨(some 5), .mv (.c (.pv (.int .i64 (0)))), none, 0⟩] false)
 (.seq (.seq (.reg [⟨(some 6), .mv (.t 1), none, 0⟩,
   ⟨(some 7), .bin .lss (.t 6) (.c (.pv (.int .i64 (0)))), none, 1⟩] false)
 (.cond (.t 7)
  (.seq (.reg [⟨(some 8), .load true 67 (.t 2), none, 0⟩,
    ⟨none, .store 67 (.t 4) (.t 8), none, 1⟩,
    ⟨(some 5), .mv (.c (.pv (.int .i64 (2)))), none, 3⟩] false)
  (.ret))
  (.skip)))
 (.seq (.seq (.reg [⟨(some 9), .mv (.t 1), none, 0⟩,
   ⟨(some 10), .faddr (.t 2) 0, none, 0⟩,
   ⟨(some 11), .load false 1 (.t 10), none, 2⟩,
   ⟨(some 12), .slen (.t 11), none, 6⟩,
   ⟨(some 13), .bin .gtr (.t 9) (.t 12), none, 15⟩] false)
 (.cond (.t 13)
  (.seq (.reg [⟨(some 14), .load true 67 (.t 2), none, 0⟩,
    ⟨none, .store 67 (.t 4) (.t 14), none, 1⟩,
    ⟨(some 5), .mv (.c (.pv (.int .i64 (20)))), none, 3⟩] false)
  (.ret))
  (.skip)))
 (.seq (.reg [⟨(some 15), .faddr (.t 2) 0, none, 0⟩,
   ⟨(some 16), .load false 1 (.t 15), none, 1⟩,
   ⟨(some 17), .faddr (.t 2) 0, none, 0⟩,
   ⟨(some 18), .load false 1 (.t 17), none, 4⟩,
   ⟨(some 19), .slen (.t 18), none, 12⟩,
   ⟨(some 20), .mv (.t 1), none, 0⟩,
   ⟨(some 21), .bin .sub (.t 19) (.t 20), none, 60⟩,
   ⟨(some 22), .faddr (.t 2) 0, none, 0⟩,
   ⟨(some 23), .load false 1 (.t 22), none, 128⟩,
   ⟨(some 24), .slen (.t 23), none, 384⟩,
   ⟨(some 25), .mv (.t 1), none, 0⟩,
   ⟨(some 26), .bin .sub (.t 24) (.t 25), none, 1920⟩,
   ⟨(some 27), .slice 7 (.t 16) none (some (.t 21)) (some (.t 26)), none, 4095⟩,
   ⟨(some 28), .faddr (.t 2) 0, none, 8191⟩,
   ⟨none, .store 1 (.t 28) (.t 27), none, 16383⟩] false)
 (.seq (.reg [⟨(some 29), .load true 67 (.t 2), none, 0⟩,
   ⟨none, .store 67 (.t 4) (.t 29), none, 1⟩,
   ⟨(some 5), .mv (.c (.pv (.int .i64 (0)))), none, 3⟩] false)
 (.ret)))))⟩
def c43 : RFn := ⟨3, 22, [.tmp 6],
 .seq (.reg [⟨(some 3), .box 67 (.t 0), none, 0⟩,
   ⟨(some 4), .box 1 (.t 1), none, 0⟩,
   ⟨(some 6), .mv (.c (.emp 7)), none, 0⟩] false)
 (.seq (.reg [⟨(some 10), .mkf (.func 56) [] [.t 4], none, 0⟩,
   ⟨(some 7), .mv (.t 10), none, 1⟩] false)
 (.seq (.seq (.reg [⟨(some 11), .mv (.t 2), none, 0⟩,
   ⟨(some 12), .slen (.t 11), none, 1⟩,
   ⟨(some 13), .mv (.c (.pv (.int .i64 (0)))), none, 0⟩] false)
 (.block 0
  (.loop [4, 7, 11, 12, 13]
   (.seq (.reg [⟨(some 14), .bin .lss (.t 13) (.t 12), none, 0⟩] false)
   (.seq (.cond (.t 14)
    (.skip)
    (.exit 0))
   (.seq (.block 1
    (.seq (.reg [⟨(some 15), .iaddr 8 (.t 11) (.t 13), none, 0⟩,
      ⟨(some 16), .load true 8 (.t 15), none, 1⟩,
      ⟨(some 9), .alloc [.pv (.str []), .pv (.int .i64 (0)), .pv (.bool false), .pv (.int .i64 (0)), .pv (.str []), .pv (.int .i64 (0)), .pv (.int .i64 (0)), .pv (.int .i64 (0))], none, 0⟩,
      ⟨none, .store 8 (.t 9) (.t 16), none, 7⟩] false)
    (.reg [⟨(some 17), .mv (.t 7), none, 0⟩,
      ⟨(some 18), .load true 8 (.t 9), none, 0⟩,
      ⟨(some 19), .call (.t 17) [.t 18], none, 3⟩] false)))
   (.reg [⟨(some 20), .bin .add (.t 13) (.c (.pv (.int .i64 (1)))), none, 0⟩,
     ⟨(some 13), .mv (.t 20), none, 1⟩] false)))))))
 (.seq (.reg [⟨(some 21), .load false 1 (.t 4), none, 0⟩,
   ⟨(some 6), .mv (.t 21), none, 1⟩] false)
 (.ret))))⟩
def c44 : RFn := ⟨2, 26, [.tmp 4],
 .seq (.reg [⟨(some 2), .box 67 (.t 0), none, 0⟩,
   ⟨(some 4), .mv (.c (.pv (.str []))), none, 0⟩] false)
 (.seq (.reg [⟨(some 9), .faddr (.t 2) 0, none, 0⟩,
   ⟨(some 10), .faddr (.t 9) 2, none, 1⟩,
   ⟨(some 11), .load false 1 (.t 10), none, 3⟩,
   ⟨(some 12), .call (.f 24) [.c (.pv (.int .i64 (3)))], none, 0⟩,
   ⟨(some 13), .mv (.t 1), none, 0⟩,
   ⟨(some 14), .call (.f 25) [.t 13], none, 24⟩,
   ⟨(some 15), .call (.f 23) [.t 11, .t 12, .t 14], none, 63⟩,
   ⟨(some 8), .mv (.t 15), none, 127⟩,
   ⟨(some 16), .extract (.t 8) 0, none, 255⟩,
   ⟨(some 17), .extract (.t 8) 1, none, 255⟩,
   ⟨(some 18), .extract (.t 8) 2, none, 255⟩,
   ⟨(some 5), .alloc [.pv (.int .i64 (0)), .pv (.bool false), .pv (.int .i64 (0)), .pv (.str []), .pv (.int .i64 (0)), .pv (.int .i64 (0)), .pv (.int .i64 (0))], none, 0⟩,
   ⟨none, .store 7 (.t 5) (.t 16), none, 2559⟩,
   ⟨(some 6), .mv (.t 17), none, 7167⟩,
   ⟨(some 7), .mv (.t 18), none, 16383⟩] true)
 (.seq (.seq (.reg [⟨(some 19), .mv (.t 6), none, 0⟩,
   ⟨(some 20), .not (.t 19), none, 1⟩] false)
 (.cond (.t 20)
  (.seq (.reg [⟨(some 4), .mv (.c (.pv (.str []))), none, 0⟩] false)
  (.ret))
  (.skip)))
 (.seq (.reg [⟨(some 21), .faddr (.t 2) 0, none, 0⟩,
   ⟨(some 22), .faddr (.t 21) 2, none, 1⟩,
   ⟨(some 23), .load false 1 (.t 22), none, 3⟩,
   ⟨(some 24), .load true 7 (.t 5), none, 0⟩,
   ⟨(some 25), .call (.f 57) [.t 23, .t 24], none, 15⟩,
   ⟨(some 4), .mv (.t 25), none, 31⟩] false)
 (.ret))))⟩
def c45 : RFn := ⟨2, 19, [.tmp 4],
 .seq (.reg [⟨(some 3), .box 7 (.t 1), none, 0⟩,
   ⟨(some 4), .mv (.c (.pv (.int .i64 (0)))), none, 0⟩] false)
 (.seq (.seq (.reg [⟨(some 6), .mv (.t 0), none, 0⟩,
   ⟨(some 7), .slen (.t 6), none, 1⟩,
   ⟨(some 8), .mv (.c (.pv (.int .i64 (0)))), none, 0⟩] false)
 (.block 0
  (.loop [0, 3, 7, 8]
   (.seq (.reg [⟨(some 9), .bin .lss (.t 8) (.t 7), none, 0⟩] false)
   (.seq (.cond (.t 9)
    (.skip)
    (.exit 0))
   (.seq (.block 1
    (.seq (.reg [⟨(some 10), .mv (.t 8), none, 0⟩,
      ⟨(some 5), .mv (.t 10), none, 1⟩] false)
    (.seq (.reg [⟨(some 11), .load true 7 (.t 3), none, 0⟩,
      ⟨(some 12), .mv (.t 0), none, 0⟩,
      ⟨(some 13), .mv (.t 5), none, 0⟩,
      ⟨(some 14), .iaddr 7 (.t 12) (.t 13), none, 6⟩,
      ⟨(some 15), .load true 7 (.t 14), none, 14⟩,
      ⟨(some 16), .eqs false [0, 1, 0, 2, 0, 0, 0] (.t 11) (.t 15), none, 31⟩] true)
    (.cond (.t 16)
     (.seq (.reg [⟨(some 17), .mv (.t 5), none, 0⟩,
       ⟨(some 4), .mv (.t 17), none, 1⟩] false)
     (.ret))
     (.skip)))))
   (.reg [⟨(some 18), .bin .add (.t 8) (.c (.pv (.int .i64 (1)))), none, 0⟩,
     ⟨(some 8), .mv (.t 18), none, 1⟩] false)))))))
 (.seq (.reg [⟨(some 4), .mv (.c (.pv (.int .i64 (-1)))), none, 0⟩] false)
 (.ret)))⟩
def c46 : RFn := ⟨1, 30, [.tmp 2],
 .seq (.reg [⟨(some 1), .box 7 (.t 0), none, 0⟩,
   ⟨(some 2), .mv (.c (.pv (.int .i64 (0)))), none, 0⟩] false)
 (.scope
  (.seq (.seq (.reg [⟨(some 7), .faddr (.t 1) 0, none, 0⟩,
    ⟨(some 8), .load false 1 (.t 7), none, 1⟩,
    ⟨(some 9), .bin .lss (.t 8) (.c (.pv (.int .i64 (0)))), none, 3⟩,
    ⟨(some 10), .mv (.t 9), none, 7⟩,
    ⟨(some 11), .faddr (.t 1) 0, (some (10, false)), 15⟩,
    ⟨(some 12), .load false 1 (.t 11), (some (10, false)), 31⟩,
    ⟨(some 13), .bin .geq (.t 12) (.c (.pv (.int .i64 (13)))), (some (10, false)), 63⟩,
    ⟨(some 14), .pick (.t 10) (.c (.pv (.bool true))) (.t 13), none, 127⟩] false)
  (.cond (.t 14)
   (.seq (.reg [⟨(some 2), .mv (.c (.pv (.int .i64 (200)))), none, 0⟩] false)
   (.ret))
   (.skip)))
  (.seq (.reg [⟨(some 15), .call (.f 58) [], none, 0⟩,
    ⟨(some 16), .faddr (.t 1) 0, none, 0⟩,
    ⟨(some 17), .load false 1 (.t 16), none, 2⟩,
    ⟨(some 18), .index true 13 6 (.t 15) (.t 17), none, 7⟩,
    ⟨(some 3), .alloc [.pv (.str []), .pv (.int .i64 (0)), .pv (.int .i64 (0)), .pv (.int .i64 (0)), .pv (.int .i64 (0)), .pv (.int .i64 (0))], none, 0⟩,
    ⟨none, .store 6 (.t 3) (.t 18), none, 31⟩] true)
  (.seq (.reg [⟨(some 4), .mv (.c (.pv (.int .i64 (0)))), none, 0⟩] false)
  (.seq (.skip)
  (.seq (.seq (.reg [⟨(some 19), .build [.pv .nilFunc, .pv .nilFunc, .pv .nilFunc] [(0, 1, .f 59), (1, 1, .f 60), (2, 1, .f 61)], none, 0⟩,
    ⟨(some 20), .mv (.c (.pv (.int .i64 (0)))), none, 0⟩] false)
  (.block 0
   (.loop [1, 3, 4, 19, 20]
    (.seq (.reg [⟨(some 21), .bin .lss (.t 20) (.c (.pv (.int .i64 (3)))), none, 0⟩] false)
    (.seq (.cond (.t 21)
     (.skip)
     (.exit 0))
    (.seq (.block 1
     (.seq (.reg [⟨(some 22), .index false 3 1 (.t 19) (.t 20), none, 0⟩,
       ⟨(some 6), .mv (.t 22), none, 1⟩] false)
     (.seq (.reg [⟨(some 23), .mv (.t 6), none, 0⟩,
       ⟨(some 24), .load true 6 (.t 3), none, 0⟩,
       ⟨(some 25), .load true 7 (.t 1), none, 0⟩,
       ⟨(some 26), .call (.t 23) [.t 24, .t 25], none, 7⟩,
       ⟨(some 27), .not (.t 26), none, 15⟩] false)
     (.cond (.t 27)
      (.seq (.reg [⟨(some 4), .mv (.c (.pv (.int .i64 (200)))), none, 0⟩] false)
      (.exit 0))
      (.skip)))))
    (.reg [⟨(some 28), .bin .add (.t 20) (.c (.pv (.int .i64 (1)))), none, 0⟩,
      ⟨(some 20), .mv (.t 28), none, 1⟩] false)))))))
  (.seq (.reg [⟨(some 29), .mv (.t 4), none, 0⟩,
    ⟨(some 2), .mv (.t 29), none, 1⟩] false)
  (.ret))))))))⟩
def c47 : RFn := ⟨1, 6, [.tmp 2],
 .seq (.reg [⟨(some 2), .mv (.c (.pv (.int .i64 (0)))), none, 0⟩] false)
 (.seq (.reg [⟨(some 3), .build [.pv (.int .i64 (0)), .pv (.int .i64 (0)), .pv (.int .i64 (0)), .pv (.int .i64 (0)), .pv (.int .i64 (0)), .pv (.int .i64 (0)), .pv (.int .i64 (0)), .pv (.int .i64 (0)), .pv (.int .i64 (0)), .pv (.int .i64 (0)), .pv (.int .i64 (0)), .pv (.int .i64 (0)), .pv (.int .i64 (0)), .pv (.int .i64 (0))] [(6, 1, .c (.pv (.int .i64 (1)))), (7, 1, .c (.pv (.int .i64 (2)))), (8, 1, .c (.pv (.int .i64 (2)))), (9, 1, .c (.pv (.int .i64 (3)))), (11, 1, .c (.pv (.int .i64 (4)))), (13, 1, .c (.pv (.int .i64 (0))))], none, 0⟩,
   ⟨(some 4), .mv (.t 0), none, 0⟩,
   ⟨(some 5), .index false 14 1 (.t 3) (.t 4), none, 3⟩,
   ⟨(some 2), .mv (.t 5), none, 7⟩] false)
 (.ret))⟩
def c48 : RFn := ⟨1, 12, [.tmp 2],
 .seq (.reg [⟨(some 1), .box 7 (.t 0), none, 0⟩,
   ⟨(some 2), .mv (.c (.pv (.int .i64 (0)))), none, 0⟩] false)
 (.seq (.seq (.reg [⟨(some 3), .faddr (.t 1) 0, none, 0⟩,
   ⟨(some 4), .load false 1 (.t 3), none, 1⟩,
   ⟨(some 5), .bin .eql (.t 4) (.c (.pv (.int .i64 (1)))), none, 3⟩] false)
 (.cond (.t 5)
  (.seq (.reg [⟨(some 6), .faddr (.t 1) 1, none, 0⟩,
    ⟨(some 7), .load false 1 (.t 6), none, 1⟩,
    ⟨(some 8), .strlen (.t 7), none, 3⟩,
    ⟨(some 2), .mv (.t 8), none, 7⟩] false)
  (.ret))
  (.skip)))
 (.seq (.reg [⟨(some 9), .faddr (.t 1) 2, none, 0⟩,
   ⟨(some 10), .load false 1 (.t 9), none, 1⟩,
   ⟨(some 11), .slen (.t 10), none, 3⟩,
   ⟨(some 2), .mv (.t 11), none, 7⟩] false)
 (.ret)))⟩
def c49 : RFn := ⟨2, 24, [.tmp 4, .tmp 5, .tmp 6],
 .seq (.reg [⟨(some 3), .box 7 (.t 1), none, 0⟩,
   ⟨(some 4), .mv (.c (.emp 7)), none, 0⟩,
   ⟨(some 5), .mv (.c (.pv (.int .i64 (0)))), none, 2⟩,
   ⟨(some 6), .mv (.c (.pv (.int .i64 (0)))), none, 6⟩] false)
 (.seq (.seq (.reg [⟨(some 7), .mv (.t 0), none, 0⟩,
   ⟨(some 8), .call (.f 13) [.t 7], none, 1⟩,
   ⟨(some 9), .load true 7 (.t 3), none, 0⟩,
   ⟨(some 10), .call (.f 35) [.t 9], none, 7⟩,
   ⟨(some 11), .bin .add (.t 8) (.t 10), none, 15⟩,
   ⟨(some 12), .bin .gtr (.t 11) (.c (.pv (.int .i64 (20000)))), none, 31⟩] true)
 (.cond (.t 12)
  (.seq (.reg [⟨(some 4), .mv (.c (.emp 7)), none, 0⟩,
    ⟨(some 5), .mv (.c (.pv (.int .i64 (0)))), none, 1⟩,
    ⟨(some 6), .mv (.c (.pv (.int .i64 (27)))), none, 3⟩] false)
  (.ret))
  (.skip)))
 (.seq (.reg [⟨(some 13), .mv (.t 0), none, 0⟩,
   ⟨(some 14), .mv (.t 0), none, 0⟩,
   ⟨(some 15), .slen (.t 14), none, 2⟩,
   ⟨(some 16), .mv (.t 0), none, 0⟩,
   ⟨(some 17), .slen (.t 16), none, 8⟩,
   ⟨(some 18), .slice 7 (.t 13) none (some (.t 15)) (some (.t 17)), none, 31⟩,
   ⟨(some 19), .load true 7 (.t 3), none, 0⟩,
   ⟨(some 20), .bsl 7 1 [.pv (.int .i64 (0)), .pv (.str []), .emp 7, .emp 7, .emp 7, .pv (.int .i64 (0)), .pv (.int .i64 (0))] [(0, .t 19)], none, 64⟩,
   ⟨(some 21), .append 7 112 (.t 18) (.t 20), none, 255⟩,
   ⟨(some 22), .mv (.t 0), none, 0⟩,
   ⟨(some 23), .slen (.t 22), none, 512⟩,
   ⟨(some 4), .mv (.t 21), none, 511⟩,
   ⟨(some 5), .mv (.t 23), none, 4095⟩,
   ⟨(some 6), .mv (.c (.pv (.int .i64 (0)))), none, 8191⟩] true)
 (.ret)))⟩
def c50 : RFn := ⟨3, 20, [.tmp 6],
 .seq (.reg [⟨(some 6), .mv (.c (.emp 7)), none, 0⟩] false)
 (.seq (.reg [⟨(some 8), .mv (.t 0), none, 0⟩,
   ⟨(some 9), .slen (.t 8), none, 1⟩,
   ⟨(some 10), .mksl 7 64 [.int .i64 (0), .bool false, .int .i64 (0), .str [], .int .i64 (0), .int .i64 (0), .int .i64 (0)] (.t 9), none, 3⟩,
   ⟨(some 7), .mv (.t 10), none, 7⟩] false)
 (.seq (.reg [⟨(some 11), .mv (.t 7), none, 0⟩,
   ⟨(some 12), .mv (.t 0), none, 0⟩,
   ⟨(some 13), .copy 7 (.t 11) (.t 12), none, 3⟩] false)
 (.seq (.reg [⟨(some 14), .mv (.t 7), none, 0⟩,
   ⟨(some 15), .mv (.t 1), none, 0⟩,
   ⟨(some 16), .slice 7 (.t 14) (some (.t 15)) none none, none, 3⟩,
   ⟨(some 17), .mv (.t 2), none, 0⟩,
   ⟨(some 18), .copy 7 (.t 16) (.t 17), none, 15⟩] false)
 (.seq (.reg [⟨(some 19), .mv (.t 7), none, 0⟩,
   ⟨(some 6), .mv (.t 19), none, 1⟩] false)
 (.ret)))))⟩
def c51 : RFn := ⟨2, 23, [.tmp 4],
 .seq (.reg [⟨(some 2), .box 8 (.t 0), none, 0⟩,
   ⟨(some 3), .box 7 (.t 1), none, 0⟩,
   ⟨(some 4), .mv (.c (.emp 7)), none, 0⟩] false)
 (.seq (.reg [⟨(some 6), .faddr (.t 2) 0, none, 0⟩,
   ⟨(some 7), .faddr (.t 6) 0, none, 1⟩,
   ⟨(some 8), .load false 1 (.t 7), none, 3⟩,
   ⟨(some 9), .slen (.t 8), none, 7⟩,
   ⟨(some 10), .mksl 7 112 [.int .i64 (0), .str [], .sl 7 [], .sl 7 [], .sl 7 [], .int .i64 (0), .int .i64 (0)] (.t 9), none, 15⟩,
   ⟨(some 5), .mv (.t 10), none, 31⟩] false)
 (.seq (.reg [⟨(some 11), .mv (.t 5), none, 0⟩,
   ⟨(some 12), .faddr (.t 2) 0, none, 0⟩,
   ⟨(some 13), .faddr (.t 12) 0, none, 2⟩,
   ⟨(some 14), .load false 1 (.t 13), none, 6⟩,
   ⟨(some 15), .copy 7 (.t 11) (.t 14), none, 15⟩] false)
 (.seq (.reg [⟨(some 16), .mv (.t 5), none, 0⟩,
   ⟨(some 17), .faddr (.t 2) 1, none, 0⟩,
   ⟨(some 18), .faddr (.t 17) 4, none, 2⟩,
   ⟨(some 19), .load false 1 (.t 18), none, 6⟩,
   ⟨(some 20), .load true 7 (.t 3), none, 0⟩,
   ⟨(some 21), .iaddr 7 (.t 16) (.t 19), none, 31⟩,
   ⟨none, .store 7 (.t 21) (.t 20), none, 63⟩] false)
 (.seq (.reg [⟨(some 22), .mv (.t 5), none, 0⟩,
   ⟨(some 4), .mv (.t 22), none, 1⟩] false)
 (.ret)))))⟩
def c52 : RFn := ⟨1, 4, [.tmp 2],
 .seq (.reg [⟨(some 1), .box 7 (.t 0), none, 0⟩,
   ⟨(some 2), .mv (.c (.pv .nilFunc)), none, 0⟩] false)
 (.seq (.reg [⟨(some 3), .mkf (.func 62) [] [.t 1], none, 0⟩,
   ⟨(some 2), .mv (.t 3), none, 1⟩] false)
 (.ret))⟩
def c53 : RFn := ⟨1, 37, [.cell 2 true 7, .tmp 3],
 .seq (.reg [⟨(some 1), .box 7 (.t 0), none, 0⟩,
   ⟨(some 2), .alloc [.pv (.int .i64 (0)), .pv (.bool false), .pv (.int .i64 (0)), .pv (.str []), .pv (.int .i64 (0)), .pv (.int .i64 (0)), .pv (.int .i64 (0))], none, 0⟩,
   ⟨(some 3), .mv (.c (.pv (.int .i64 (0)))), none, 0⟩] false)
 (.seq (.seq (.reg [⟨(some 5), .load true 7 (.t 1), none, 0⟩,
   ⟨(some 6), .call (.f 46) [.t 5], none, 1⟩,
   ⟨(some 4), .mv (.t 6), none, 3⟩] false)
 (.seq (.reg [⟨(some 7), .mv (.t 4), none, 0⟩,
   ⟨(some 8), .bin .neq (.t 7) (.c (.pv (.int .i64 (0)))), none, 1⟩] false)
 (.cond (.t 8)
  (.seq (.reg [⟨(some 9), .build [.pv (.int .i64 (0)), .pv (.bool false), .pv (.int .i64 (0)), .pv (.str []), .pv (.int .i64 (0)), .pv (.int .i64 (0)), .pv (.int .i64 (0))] [], none, 0⟩,
    ⟨(some 10), .mv (.t 4), none, 0⟩,
    ⟨none, .store 7 (.t 2) (.t 9), none, 1⟩,
    ⟨(some 3), .mv (.t 10), none, 7⟩] false)
  (.ret))
  (.skip))))
 (.seq (.seq (.reg [⟨(some 11), .load true 7 (.t 1), none, 0⟩,
   ⟨(some 12), .faddr (.t 1) 1, none, 0⟩,
   ⟨(some 13), .load false 1 (.t 12), none, 2⟩,
   ⟨(some 14), .build [.pv (.int .i64 (0)), .pv (.bool false), .pv (.int .i64 (0)), .pv (.str []), .pv (.int .i64 (0)), .pv (.int .i64 (0)), .pv (.int .i64 (0))] [(0, 1, .c (.pv (.int .i64 (0)))), (1, 1, .t 13)], none, 6⟩,
   ⟨(some 15), .eqs false [0, 1, 0, 2, 0, 0, 0] (.t 11) (.t 14), none, 15⟩,
   ⟨(some 16), .mv (.t 15), none, 31⟩,
   ⟨(some 17), .faddr (.t 1) 0, (some (16, false)), 63⟩,
   ⟨(some 18), .load false 1 (.t 17), (some (16, false)), 127⟩,
   ⟨(some 19), .bin .eql (.t 18) (.c (.pv (.int .i64 (6)))), (some (16, false)), 255⟩,
   ⟨(some 20), .pick (.t 16) (.c (.pv (.bool true))) (.t 19), none, 511⟩] false)
 (.cond (.t 20)
  (.seq (.reg [⟨(some 21), .build [.pv (.int .i64 (0)), .pv (.bool false), .pv (.int .i64 (0)), .pv (.str []), .pv (.int .i64 (0)), .pv (.int .i64 (0)), .pv (.int .i64 (0))] [], none, 0⟩,
    ⟨none, .store 7 (.t 2) (.t 21), none, 1⟩,
    ⟨(some 3), .mv (.c (.pv (.int .i64 (22)))), none, 3⟩] false)
  (.ret))
  (.skip)))
 (.seq (.seq (.reg [⟨(some 22), .faddr (.t 1) 0, none, 0⟩,
   ⟨(some 23), .load false 1 (.t 22), none, 1⟩,
   ⟨(some 24), .bin .eql (.t 23) (.c (.pv (.int .i64 (4)))), none, 3⟩,
   ⟨(some 25), .mv (.t 24), none, 7⟩,
   ⟨(some 26), .faddr (.t 1) 2, (some (25, true)), 15⟩,
   ⟨(some 27), .load false 1 (.t 26), (some (25, true)), 31⟩,
   ⟨(some 28), .bin .rem (.t 27) (.c (.pv (.int .i64 (65536)))), (some (25, true)), 63⟩,
   ⟨(some 29), .bin .eql (.t 28) (.c (.pv (.int .i64 (0)))), (some (25, true)), 127⟩,
   ⟨(some 30), .pick (.t 25) (.t 29) (.c (.pv (.bool false))), none, 255⟩] false)
 (.cond (.t 30)
  (.seq (.reg [⟨(some 31), .load true 7 (.t 1), none, 0⟩,
    ⟨(some 32), .call (.f 63) [.t 31], none, 1⟩,
    ⟨(some 33), .extract (.t 32) 0, none, 3⟩,
    ⟨(some 34), .extract (.t 32) 1, none, 3⟩,
    ⟨none, .store 7 (.t 2) (.t 33), none, 15⟩,
    ⟨(some 3), .mv (.t 34), none, 31⟩] false)
  (.ret))
  (.skip)))
 (.seq (.reg [⟨(some 35), .faddr (.t 1) 1, none, 0⟩,
   ⟨none, .store 1 (.t 35) (.c (.pv (.bool false))), none, 1⟩] false)
 (.seq (.reg [⟨(some 36), .load true 7 (.t 1), none, 0⟩,
   ⟨none, .store 7 (.t 2) (.t 36), none, 1⟩,
   ⟨(some 3), .mv (.c (.pv (.int .i64 (0)))), none, 3⟩] false)
 (.ret))))))⟩
def c54 : RFn := ⟨2, 9, [.tmp 4],
 .seq (.reg [⟨(some 3), .box 7 (.t 1), none, 0⟩,
   ⟨(some 4), .mv (.c (.pv (.bool false))), none, 0⟩] false)
 (.seq (.reg [⟨(some 5), .mv (.t 0), none, 0⟩,
   ⟨(some 6), .load true 7 (.t 3), none, 0⟩,
   ⟨(some 7), .call (.f 45) [.t 5, .t 6], none, 3⟩,
   ⟨(some 8), .bin .geq (.t 7) (.c (.pv (.int .i64 (0)))), none, 7⟩,
   ⟨(some 4), .mv (.t 8), none, 15⟩] false)
 (.ret))⟩
def c55 : RFn := ⟨2, 9, [.tmp 4],
 .seq (.reg [⟨(some 4), .mv (.c (.pv (.bool false))), none, 0⟩] false)
 (.seq (.reg [⟨(some 5), .mv (.t 0), none, 0⟩,
   ⟨(some 6), .mv (.t 1), none, 0⟩,
   ⟨(some 7), .call (.f 64) [.t 5, .t 6], none, 3⟩,
   ⟨(some 8), .bin .geq (.t 7) (.c (.pv (.int .i64 (0)))), none, 7⟩,
   ⟨(some 4), .mv (.t 8), none, 15⟩] false)
 (.ret))⟩
def c56 : RFn := ⟨2, 19, [],
 .seq (.reg [⟨(some 2), .box 8 (.t 0), none, 0⟩] false)
 (.seq (.reg [⟨(some 6), .load false 1 (.t 1), none, 0⟩,
   ⟨(some 7), .call (.f 24) [.c (.pv (.int .i64 (3)))], none, 0⟩,
   ⟨(some 8), .faddr (.t 2) 0, none, 0⟩,
   ⟨(some 9), .load false 1 (.t 8), none, 4⟩,
   ⟨(some 10), .call (.f 25) [.t 9], none, 14⟩,
   ⟨(some 11), .faddr (.t 2) 1, none, 0⟩,
   ⟨(some 12), .load true 7 (.t 11), none, 32⟩,
   ⟨(some 13), .call (.f 30) [.t 6, .t 7, .t 10, .t 12], none, 127⟩,
   ⟨(some 5), .mv (.t 13), none, 255⟩,
   ⟨(some 14), .extract (.t 5) 0, none, 511⟩,
   ⟨(some 15), .extract (.t 5) 1, none, 511⟩,
   ⟨(some 3), .mv (.t 14), none, 1023⟩,
   ⟨(some 4), .mv (.t 15), none, 4095⟩] true)
 (.seq (.reg [⟨(some 16), .mv (.t 4), none, 0⟩,
   ⟨(some 17), .bin .eql (.t 16) (.c (.pv (.int .i64 (0)))), none, 1⟩] false)
 (.cond (.t 17)
  (.reg [⟨(some 18), .mv (.t 3), none, 0⟩,
    ⟨none, .store 1 (.t 1) (.t 18), none, 1⟩] false)
  (.skip))))⟩
def c57 : RFn := ⟨2, 33, [.tmp 4],
 .seq (.reg [⟨(some 3), .box 7 (.t 1), none, 0⟩,
   ⟨(some 4), .mv (.c (.pv (.str []))), none, 0⟩] false)
 (.seq (.seq (.reg [⟨(some 8), .mv (.t 0), none, 0⟩,
   ⟨(some 9), .load true 7 (.t 3), none, 0⟩,
   ⟨(some 10), .call (.f 26) [.t 8, .t 9], none, 3⟩,
   ⟨(some 11), .not (.t 10), none, 7⟩] false)
 (.cond (.t 11)
  (.seq (.reg [⟨(some 4), .mv (.c (.pv (.str []))), none, 0⟩] false)
  (.ret))
  (.skip)))
 (.seq (.reg [⟨(some 5), .mv (.f 65), none, 0⟩] false)
 (.seq (.reg [⟨(some 12), .build [.pv .nilFunc] [(0, 1, .f 66)], none, 0⟩,
   ⟨(some 13), .build [.pv .nilFunc] [(0, 1, .f 68)], none, 0⟩,
   ⟨(some 14), .build [.pv .nilFunc] [(0, 1, .f 70)], none, 0⟩,
   ⟨(some 15), .mv (.t 5), none, 0⟩,
   ⟨(some 16), .build [.pv .nilFunc] [(0, 1, .t 15)], none, 8⟩,
   ⟨(some 17), .build [.pv .nilFunc] [(0, 1, .f 72)], none, 0⟩,
   ⟨(some 18), .mv (.t 5), none, 0⟩,
   ⟨(some 19), .build [.pv .nilFunc] [(0, 1, .t 18)], none, 64⟩,
   ⟨(some 20), .build [.pv .nilFunc] [], none, 0⟩,
   ⟨(some 21), .build [.pv .nilFunc, .pv .nilFunc, .pv .nilFunc, .pv .nilFunc, .pv .nilFunc, .pv .nilFunc, .pv .nilFunc, .pv .nilFunc, .pv .nilFunc, .pv .nilFunc, .pv .nilFunc, .pv .nilFunc, .pv .nilFunc, .pv .nilFunc] [(2, 1, .t 12), (3, 1, .t 13), (4, 1, .t 14), (5, 1, .t 16), (6, 1, .t 17), (10, 1, .t 19), (13, 1, .t 20)], none, 511⟩,
   ⟨(some 6), .alloc [.pv .nilFunc, .pv .nilFunc, .pv .nilFunc, .pv .nilFunc, .pv .nilFunc, .pv .nilFunc, .pv .nilFunc, .pv .nilFunc, .pv .nilFunc, .pv .nilFunc, .pv .nilFunc, .pv .nilFunc, .pv .nilFunc, .pv .nilFunc], none, 0⟩,
   ⟨none, .store 14 (.t 6) (.t 21), none, 2047⟩] false)
 (.seq (.seq (.reg [⟨(some 22), .faddr (.t 3) 0, none, 0⟩,
   ⟨(some 23), .load false 1 (.t 22), none, 1⟩,
   ⟨(some 24), .paddr 14 1 (.t 6) (.t 23), none, 3⟩,
   ⟨(some 25), .faddr (.t 24) 0, none, 7⟩,
   ⟨(some 26), .load false 1 (.t 25), none, 15⟩,
   ⟨(some 7), .mv (.t 26), none, 31⟩] false)
 (.seq (.reg [⟨(some 27), .mv (.t 7), none, 0⟩,
   ⟨(some 28), .isnilf true (.t 27), none, 1⟩] false)
 (.cond (.t 28)
  (.seq (.reg [⟨(some 29), .mv (.t 7), none, 0⟩,
    ⟨(some 30), .mv (.t 0), none, 0⟩,
    ⟨(some 31), .load true 7 (.t 3), none, 0⟩,
    ⟨(some 32), .call (.t 29) [.t 30, .t 31], none, 7⟩,
    ⟨(some 4), .mv (.t 32), none, 15⟩] false)
  (.ret))
  (.skip))))
 (.seq (.reg [⟨(some 4), .mv (.c (.pv (.str [45, 45, 110, 111, 115, 116, 114, 105, 110, 103, 118, 97, 108, 45, 45]))), none, 0⟩] false)
 (.ret))))))⟩
def c58 : RFn := ⟨0, 15, [.cell 0 true 78],
 .seq (.reg [⟨(some 0), .alloc [.pv (.str []), .pv (.int .i64 (0)), .pv (.int .i64 (0)), .pv (.int .i64 (0)), .pv (.int .i64 (0)), .pv (.int .i64 (0)), .pv (.str []), .pv (.int .i64 (0)), .pv (.int .i64 (0)), .pv (.int .i64 (0)), .pv (.int .i64 (0)), .pv (.int .i64 (0)), .pv (.str []), .pv (.int .i64 (0)), .pv (.int .i64 (0)), .pv (.int .i64 (0)), .pv (.int .i64 (0)), .pv (.int .i64 (0)), .pv (.str []), .pv (.int .i64 (0)), .pv (.int .i64 (0)), .pv (.int .i64 (0)), .pv (.int .i64 (0)), .pv (.int .i64 (0)), .pv (.str []), .pv (.int .i64 (0)), .pv (.int .i64 (0)), .pv (.int .i64 (0)), .pv (.int .i64 (0)), .pv (.int .i64 (0)), .pv (.str []), .pv (.int .i64 (0)), .pv (.int .i64 (0)), .pv (.int .i64 (0)), .pv (.int .i64 (0)), .pv (.int .i64 (0)), .pv (.str []), .pv (.int .i64 (0)), .pv (.int .i64 (0)), .pv (.int .i64 (0)), .pv (.int .i64 (0)), .pv (.int .i64 (0)), .pv (.str []), .pv (.int .i64 (0)), .pv (.int .i64 (0)), .pv (.int .i64 (0)), .pv (.int .i64 (0)), .pv (.int .i64 (0)), .pv (.str []), .pv (.int .i64 (0)), .pv (.int .i64 (0)), .pv (.int .i64 (0)), .pv (.int .i64 (0)), .pv (.int .i64 (0)), .pv (.str []), .pv (.int .i64 (0)), .pv (.int .i64 (0)), .pv (.int .i64 (0)), .pv (.int .i64 (0)), .pv (.int .i64 (0)), .pv (.str []), .pv (.int .i64 (0)), .pv (.int .i64 (0)), .pv (.int .i64 (0)), .pv (.int .i64 (0)), .pv (.int .i64 (0)), .pv (.str []), .pv (.int .i64 (0)), .pv (.int .i64 (0)), .pv (.int .i64 (0)), .pv (.int .i64 (0)), .pv (.int .i64 (0)), .pv (.str []), .pv (.int .i64 (0)), .pv (.int .i64 (0)), .pv (.int .i64 (0)), .pv (.int .i64 (0)), .pv (.int .i64 (0))], none, 0⟩] false)
 (.seq (.reg [⟨(some 1), .build [.pv (.str []), .pv (.int .i64 (0)), .pv (.int .i64 (0)), .pv (.int .i64 (0)), .pv (.int .i64 (0)), .pv (.int .i64 (0))] [(0, 1, .c (.pv (.str [110, 117, 108, 108, 116, 121, 112, 101])))], none, 0⟩,
   ⟨(some 2), .build [.pv (.str []), .pv (.int .i64 (0)), .pv (.int .i64 (0)), .pv (.int .i64 (0)), .pv (.int .i64 (0)), .pv (.int .i64 (0))] [(0, 1, .c (.pv (.str [109, 97, 114, 107, 116, 121, 112, 101])))], none, 0⟩,
   ⟨(some 3), .build [.pv (.str []), .pv (.int .i64 (0)), .pv (.int .i64 (0)), .pv (.int .i64 (0)), .pv (.int .i64 (0)), .pv (.int .i64 (0))] [(0, 1, .c (.pv (.str [98, 111, 111, 108, 101, 97, 110, 116, 121, 112, 101]))), (2, 1, .c (.pv (.int .i64 (1))))], none, 0⟩,
   ⟨(some 4), .build [.pv (.str []), .pv (.int .i64 (0)), .pv (.int .i64 (0)), .pv (.int .i64 (0)), .pv (.int .i64 (0)), .pv (.int .i64 (0))] [(0, 1, .c (.pv (.str [105, 110, 116, 101, 103, 101, 114, 116, 121, 112, 101]))), (1, 1, .c (.pv (.int .i64 (-2147483648)))), (2, 1, .c (.pv (.int .i64 (2147483647))))], none, 0⟩,
   ⟨(some 5), .build [.pv (.str []), .pv (.int .i64 (0)), .pv (.int .i64 (0)), .pv (.int .i64 (0)), .pv (.int .i64 (0)), .pv (.int .i64 (0))] [(0, 1, .c (.pv (.str [114, 101, 97, 108, 116, 121, 112, 101]))), (1, 1, .c (.pv (.int .i64 (-2147483648)))), (2, 1, .c (.pv (.int .i64 (2147483648))))], none, 0⟩,
   ⟨(some 6), .build [.pv (.str []), .pv (.int .i64 (0)), .pv (.int .i64 (0)), .pv (.int .i64 (0)), .pv (.int .i64 (0)), .pv (.int .i64 (0))] [(0, 1, .c (.pv (.str [110, 97, 109, 101, 116, 121, 112, 101]))), (4, 1, .c (.pv (.int .i64 (100))))], none, 0⟩,
   ⟨(some 7), .build [.pv (.str []), .pv (.int .i64 (0)), .pv (.int .i64 (0)), .pv (.int .i64 (0)), .pv (.int .i64 (0)), .pv (.int .i64 (0))] [(0, 1, .c (.pv (.str [115, 116, 114, 105, 110, 103, 116, 121, 112, 101]))), (5, 1, .c (.pv (.int .i64 (1))))], none, 0⟩,
   ⟨(some 8), .build [.pv (.str []), .pv (.int .i64 (0)), .pv (.int .i64 (0)), .pv (.int .i64 (0)), .pv (.int .i64 (0)), .pv (.int .i64 (0))] [(0, 1, .c (.pv (.str [97, 114, 114, 97, 121, 116, 121, 112, 101]))), (5, 1, .c (.pv (.int .i64 (2))))], none, 0⟩,
   ⟨(some 9), .build [.pv (.str []), .pv (.int .i64 (0)), .pv (.int .i64 (0)), .pv (.int .i64 (0)), .pv (.int .i64 (0)), .pv (.int .i64 (0))] [(0, 1, .c (.pv (.str [112, 97, 99, 107, 101, 100, 97, 114, 114, 97, 121, 116, 121, 112, 101]))), (5, 1, .c (.pv (.int .i64 (2))))], none, 0⟩,
   ⟨(some 10), .build [.pv (.str []), .pv (.int .i64 (0)), .pv (.int .i64 (0)), .pv (.int .i64 (0)), .pv (.int .i64 (0)), .pv (.int .i64 (0))] [(0, 1, .c (.pv (.str [100, 105, 99, 116, 116, 121, 112, 101]))), (5, 1, .c (.pv (.int .i64 (3))))], none, 0⟩,
   ⟨(some 11), .build [.pv (.str []), .pv (.int .i64 (0)), .pv (.int .i64 (0)), .pv (.int .i64 (0)), .pv (.int .i64 (0)), .pv (.int .i64 (0))] [(0, 1, .c (.pv (.str [111, 112, 101, 114, 97, 116, 111, 114, 116, 121, 112, 101]))), (3, 1, .c (.pv (.int .i64 (1)))), (4, 1, .c (.pv (.int .i64 (100))))], none, 0⟩,
   ⟨(some 12), .build [.pv (.str []), .pv (.int .i64 (0)), .pv (.int .i64 (0)), .pv (.int .i64 (0)), .pv (.int .i64 (0)), .pv (.int .i64 (0))] [(0, 1, .c (.pv (.str [102, 105, 108, 101, 116, 121, 112, 101]))), (5, 1, .c (.pv (.int .i64 (3))))], none, 0⟩,
   ⟨(some 13), .build [.pv (.str []), .pv (.int .i64 (0)), .pv (.int .i64 (0)), .pv (.int .i64 (0)), .pv (.int .i64 (0)), .pv (.int .i64 (0))] [(0, 1, .c (.pv (.str [115, 97, 118, 101, 116, 121, 112, 101]))), (1, 1, .c (.pv (.int .i64 (1)))), (2, 1, .c (.pv (.int .i64 (9223372036854775807))))], none, 0⟩,
   ⟨(some 14), .build [.pv (.str []), .pv (.int .i64 (0)), .pv (.int .i64 (0)), .pv (.int .i64 (0)), .pv (.int .i64 (0)), .pv (.int .i64 (0)), .pv (.str []), .pv (.int .i64 (0)), .pv (.int .i64 (0)), .pv (.int .i64 (0)), .pv (.int .i64 (0)), .pv (.int .i64 (0)), .pv (.str []), .pv (.int .i64 (0)), .pv (.int .i64 (0)), .pv (.int .i64 (0)), .pv (.int .i64 (0)), .pv (.int .i64 (0)), .pv (.str []), .pv (.int .i64 (0)), .pv (.int .i64 (0)), .pv (.int .i64 (0)), .pv (.int .i64 (0)), .pv (.int .i64 (0)), .pv (.str []), .pv (.int .i64 (0)), .pv (.int .i64 (0)), .pv (.int .i64 (0)), .pv (.int .i64 (0)), .pv (.int .i64 (0)), .pv (.str []), .pv (.int .i64 (0)), .pv (.int .i64 (0)), .pv (.int .i64 (0)), .pv (.int .i64 (0)), .pv (.int .i64 (0)), .pv (.str []), .pv (.int .i64 (0)), .pv (.int .i64 (0)), .pv (.int .i64 (0)), .pv (.int .i64 (0)), .pv (.int .i64 (0)), .pv (.str []), .pv (.int .i64 (0)), .pv (.int .i64 (0)), .pv (.int .i64 (0)), .pv (.int .i64 (0)), .pv (.int .i64 (0)), .pv (.str []), .pv (.int .i64 (0)), .pv (.int .i64 (0)), .pv (.int .i64 (0)), .pv (.int .i64 (0)), .pv (.int .i64 (0)), .pv (.str []), .pv (.int .i64 (0)), .pv (.int .i64 (0)), .pv (.int .i64 (0)), .pv (.int .i64 (0)), .pv (.int .i64 (0)), .pv (.str []), .pv (.int .i64 (0)), .pv (.int .i64 (0)), .pv (.int .i64 (0)), .pv (.int .i64 (0)), .pv (.int .i64 (0)), .pv (.str []), .pv (.int .i64 (0)), .pv (.int .i64 (0)), .pv (.int .i64 (0)), .pv (.int .i64 (0)), .pv (.int .i64 (0)), .pv (.str []), .pv (.int .i64 (0)), .pv (.int .i64 (0)), .pv (.int .i64 (0)), .pv (.int .i64 (0)), .pv (.int .i64 (0))] [(0, 6, .t 1), (6, 6, .t 2), (12, 6, .t 3), (18, 6, .t 4), (24, 6, .t 5), (30, 6, .t 6), (36, 6, .t 7), (42, 6, .t 8), (48, 6, .t 9), (54, 6, .t 10), (60, 6, .t 11), (66, 6, .t 12), (72, 6, .t 13)], none, 8191⟩,
   ⟨none, .store 78 (.t 0) (.t 14), none, 16383⟩] false)
 (.ret))⟩
def c59 : RFn := ⟨2, 17, [.tmp 4],
 .seq (.reg [⟨(some 2), .box 6 (.t 0), none, 0⟩,
   ⟨(some 3), .box 7 (.t 1), none, 0⟩,
   ⟨(some 4), .mv (.c (.pv (.bool false))), none, 0⟩] false)
 (.seq (.reg [⟨(some 5), .faddr (.t 3) 2, none, 0⟩,
   ⟨(some 6), .load false 1 (.t 5), none, 1⟩,
   ⟨(some 7), .faddr (.t 2) 1, none, 0⟩,
   ⟨(some 8), .load false 1 (.t 7), none, 4⟩,
   ⟨(some 9), .bin .geq (.t 6) (.t 8), none, 15⟩,
   ⟨(some 10), .mv (.t 9), none, 31⟩,
   ⟨(some 11), .faddr (.t 3) 2, (some (10, true)), 63⟩,
   ⟨(some 12), .load false 1 (.t 11), (some (10, true)), 127⟩,
   ⟨(some 13), .faddr (.t 2) 2, (some (10, true)), 63⟩,
   ⟨(some 14), .load false 1 (.t 13), (some (10, true)), 319⟩,
   ⟨(some 15), .bin .leq (.t 12) (.t 14), (some (10, true)), 1023⟩,
   ⟨(some 16), .pick (.t 10) (.t 15) (.c (.pv (.bool false))), none, 2047⟩,
   ⟨(some 4), .mv (.t 16), none, 4095⟩] false)
 (.ret))⟩
def c60 : RFn := ⟨2, 19, [.tmp 4],
 .seq (.reg [⟨(some 2), .box 6 (.t 0), none, 0⟩,
   ⟨(some 3), .box 7 (.t 1), none, 0⟩,
   ⟨(some 4), .mv (.c (.pv (.bool false))), none, 0⟩] false)
 (.seq (.reg [⟨(some 5), .faddr (.t 3) 3, none, 0⟩,
   ⟨(some 6), .load false 1 (.t 5), none, 1⟩,
   ⟨(some 7), .strlen (.t 6), none, 3⟩,
   ⟨(some 8), .faddr (.t 2) 3, none, 0⟩,
   ⟨(some 9), .load false 1 (.t 8), none, 8⟩,
   ⟨(some 10), .bin .geq (.t 7) (.t 9), none, 31⟩,
   ⟨(some 11), .mv (.t 10), none, 63⟩,
   ⟨(some 12), .faddr (.t 3) 3, (some (11, true)), 127⟩,
   ⟨(some 13), .load false 1 (.t 12), (some (11, true)), 255⟩,
   ⟨(some 14), .strlen (.t 13), (some (11, true)), 511⟩,
   ⟨(some 15), .faddr (.t 2) 4, (some (11, true)), 127⟩,
   ⟨(some 16), .load false 1 (.t 15), (some (11, true)), 1151⟩,
   ⟨(some 17), .bin .leq (.t 14) (.t 16), (some (11, true)), 4095⟩,
   ⟨(some 18), .pick (.t 11) (.t 17) (.c (.pv (.bool false))), none, 8191⟩,
   ⟨(some 4), .mv (.t 18), none, 16383⟩] false)
 (.ret))⟩
def c61 : RFn := ⟨2, 57, [.tmp 4],
 .seq (.reg [⟨(some 2), .box 6 (.t 0), none, 0⟩,
   ⟨(some 3), .box 7 (.t 1), none, 0⟩,
   ⟨(some 4), .mv (.c (.pv (.bool false))), none, 0⟩] false)
 (.seq (.seq (.reg [⟨(some 6), .faddr (.t 2) 5, none, 0⟩,
   ⟨(some 7), .load false 1 (.t 6), none, 1⟩,
   ⟨(some 8), .bin .eql (.t 7) (.c (.pv (.int .i64 (0)))), none, 3⟩] false)
 (.cond (.t 8)
  (.seq (.reg [⟨(some 9), .faddr (.t 3) 4, none, 0⟩,
    ⟨(some 10), .load false 1 (.t 9), none, 1⟩,
    ⟨(some 11), .bin .eql (.t 10) (.c (.pv (.int .i64 (0)))), none, 3⟩,
    ⟨(some 12), .mv (.t 11), none, 7⟩,
    ⟨(some 13), .faddr (.t 3) 5, (some (12, true)), 15⟩,
    ⟨(some 14), .load false 1 (.t 13), (some (12, true)), 31⟩,
    ⟨(some 15), .bin .eql (.t 14) (.c (.pv (.int .i64 (0)))), (some (12, true)), 63⟩,
    ⟨(some 16), .pick (.t 12) (.t 15) (.c (.pv (.bool false))), none, 127⟩,
    ⟨(some 17), .mv (.t 16), none, 255⟩,
    ⟨(some 18), .faddr (.t 3) 6, (some (17, true)), 511⟩,
    ⟨(some 19), .load false 1 (.t 18), (some (17, true)), 1023⟩,
    ⟨(some 20), .bin .eql (.t 19) (.c (.pv (.int .i64 (0)))), (some (17, true)), 2047⟩,
    ⟨(some 21), .pick (.t 17) (.t 20) (.c (.pv (.bool false))), none, 4095⟩,
    ⟨(some 4), .mv (.t 21), none, 8191⟩] false)
  (.ret))
  (.skip)))
 (.seq (.reg [⟨(some 22), .load true 6 (.t 2), none, 0⟩,
   ⟨(some 23), .call (.f 74) [.t 22], none, 1⟩,
   ⟨(some 5), .mv (.t 23), none, 3⟩] false)
 (.seq (.reg [⟨(some 24), .faddr (.t 3) 4, none, 0⟩,
   ⟨(some 25), .load false 1 (.t 24), none, 1⟩,
   ⟨(some 26), .bin .geq (.t 25) (.c (.pv (.int .i64 (0)))), none, 3⟩,
   ⟨(some 27), .mv (.t 26), none, 7⟩,
   ⟨(some 28), .faddr (.t 3) 4, (some (27, true)), 15⟩,
   ⟨(some 29), .load false 1 (.t 28), (some (27, true)), 31⟩,
   ⟨(some 30), .bin .leq (.t 29) (.c (.pv (.int .i64 (20000)))), (some (27, true)), 63⟩,
   ⟨(some 31), .pick (.t 27) (.t 30) (.c (.pv (.bool false))), none, 127⟩,
   ⟨(some 32), .mv (.t 31), none, 255⟩,
   ⟨(some 33), .faddr (.t 3) 5, (some (32, true)), 511⟩,
   ⟨(some 34), .load false 1 (.t 33), (some (32, true)), 1023⟩,
   ⟨(some 35), .bin .geq (.t 34) (.c (.pv (.int .i64 (0)))), (some (32, true)), 2047⟩,
   ⟨(some 36), .pick (.t 32) (.t 35) (.c (.pv (.bool false))), none, 4095⟩,
   ⟨(some 37), .mv (.t 36), none, 8191⟩,
   ⟨(some 38), .faddr (.t 3) 6, (some (37, true)), 16383⟩,
   ⟨(some 39), .load false 1 (.t 38), (some (37, true)), 32767⟩,
   ⟨(some 40), .bin .geq (.t 39) (.c (.pv (.int .i64 (0)))), (some (37, true)), 65535⟩,
   ⟨(some 41), .pick (.t 37) (.t 40) (.c (.pv (.bool false))), none, 131071⟩,
   ⟨(some 42), .mv (.t 41), none, 262143⟩,
   ⟨(some 43), .faddr (.t 3) 5, (some (42, true)), 524287⟩,
   ⟨(some 44), .load false 1 (.t 43), (some (42, true)), 1048575⟩,
   ⟨(some 45), .mv (.t 5), (some (42, true)), 524287⟩,
   ⟨(some 46), .bin .leq (.t 44) (.t 45), (some (42, true)), 4194303⟩,
   ⟨(some 47), .pick (.t 42) (.t 46) (.c (.pv (.bool false))), none, 8388607⟩,
   ⟨(some 48), .mv (.t 47), none, 16777215⟩,
   ⟨(some 49), .faddr (.t 3) 6, (some (48, true)), 33554431⟩,
   ⟨(some 50), .load false 1 (.t 49), (some (48, true)), 67108863⟩,
   ⟨(some 51), .mv (.t 5), (some (48, true)), 33554431⟩,
   ⟨(some 52), .faddr (.t 3) 5, (some (48, true)), 33554431⟩,
   ⟨(some 53), .load false 1 (.t 52), (some (48, true)), 301989887⟩,
   ⟨(some 54), .bin .sub (.t 51) (.t 53), (some (48, true)), 973078527⟩,
   ⟨(some 55), .bin .leq (.t 50) (.t 54), (some (48, true)), 2147483647⟩,
   ⟨(some 56), .pick (.t 48) (.t 55) (.c (.pv (.bool false))), none, 4294967295⟩,
   ⟨(some 4), .mv (.t 56), none, 8589934591⟩] false)
 (.ret))))⟩
def c62 : RFn := ⟨2, 29, [],
 .seq (.reg [⟨(some 7), .faddr (.t 1) 2, none, 0⟩,
   ⟨(some 8), .load false 1 (.t 7), none, 1⟩,
   ⟨(some 9), .faddr (.t 1) 3, none, 0⟩,
   ⟨(some 10), .load false 1 (.t 9), none, 4⟩,
   ⟨(some 11), .faddr (.t 1) 4, none, 0⟩,
   ⟨(some 12), .load false 1 (.t 11), none, 16⟩,
   ⟨(some 13), .build [.emp 7, .emp 7, .emp 7] [(0, 1, .t 8), (1, 1, .t 10), (2, 1, .t 12)], none, 63⟩,
   ⟨(some 14), .mv (.c (.pv (.int .i64 (0)))), none, 0⟩] false)
 (.block 0
  (.loop [0, 13, 14]
   (.seq (.reg [⟨(some 15), .bin .lss (.t 14) (.c (.pv (.int .i64 (3)))), none, 0⟩] false)
   (.seq (.cond (.t 15)
    (.skip)
    (.exit 0))
   (.seq (.block 1
    (.seq (.reg [⟨(some 16), .index false 3 1 (.t 13) (.t 14), none, 0⟩,
      ⟨(some 4), .mv (.t 16), none, 1⟩] false)
    (.seq (.reg [⟨(some 17), .mv (.t 4), none, 0⟩,
      ⟨(some 18), .slen (.t 17), none, 1⟩,
      ⟨(some 19), .mv (.c (.pv (.int .i64 (0)))), none, 0⟩] false)
    (.block 2
     (.loop [0, 13, 14, 17, 18, 19]
      (.seq (.reg [⟨(some 20), .bin .lss (.t 19) (.t 18), none, 0⟩] false)
      (.seq (.cond (.t 20)
       (.skip)
       (.exit 2))
      (.seq (.block 3
       (.seq (.reg [⟨(some 21), .iaddr 7 (.t 17) (.t 19), none, 0⟩,
         ⟨(some 22), .load true 7 (.t 21), none, 1⟩,
         ⟨(some 6), .alloc [.pv (.int .i64 (0)), .pv (.bool false), .pv (.int .i64 (0)), .pv (.str []), .pv (.int .i64 (0)), .pv (.int .i64 (0)), .pv (.int .i64 (0))], none, 0⟩,
         ⟨none, .store 7 (.t 6) (.t 22), none, 7⟩] false)
       (.seq (.reg [⟨(some 23), .mv (.t 0), none, 0⟩,
         ⟨(some 24), .load true 7 (.t 6), none, 0⟩,
         ⟨(some 25), .call (.t 23) [.t 24], none, 3⟩,
         ⟨(some 26), .not (.t 25), none, 7⟩] false)
       (.cond (.t 26)
        (.ret)
        (.skip)))))
      (.reg [⟨(some 27), .bin .add (.t 19) (.c (.pv (.int .i64 (1)))), none, 0⟩,
        ⟨(some 19), .mv (.t 27), none, 1⟩] false)))))))))
   (.reg [⟨(some 28), .bin .add (.t 14) (.c (.pv (.int .i64 (1)))), none, 0⟩,
     ⟨(some 14), .mv (.t 28), none, 1⟩] false))))))⟩
def c63 : RFn := ⟨1, 20, [.cell 2 true 7, .tmp 3],
 .seq (.reg [⟨(some 1), .box 7 (.t 0), none, 0⟩,
   ⟨(some 2), .alloc [.pv (.int .i64 (0)), .pv (.bool false), .pv (.int .i64 (0)), .pv (.str []), .pv (.int .i64 (0)), .pv (.int .i64 (0)), .pv (.int .i64 (0))], none, 0⟩,
   ⟨(some 3), .mv (.c (.pv (.int .i64 (0)))), none, 0⟩] false)
 (.seq (.reg [⟨(some 7), .load true 7 (.t 1), none, 0⟩,
   ⟨(some 8), .call (.f 75) [.t 7], none, 1⟩,
   ⟨(some 6), .mv (.t 8), none, 3⟩,
   ⟨(some 9), .extract (.t 6) 0, none, 7⟩,
   ⟨(some 10), .extract (.t 6) 1, none, 7⟩,
   ⟨(some 4), .mv (.t 9), none, 15⟩,
   ⟨(some 5), .mv (.t 10), none, 63⟩] false)
 (.seq (.seq (.reg [⟨(some 11), .mv (.t 5), none, 0⟩,
   ⟨(some 12), .bin .neq (.t 11) (.c (.pv (.int .i64 (0)))), none, 1⟩] false)
 (.cond (.t 12)
  (.seq (.reg [⟨(some 13), .build [.pv (.int .i64 (0)), .pv (.bool false), .pv (.int .i64 (0)), .pv (.str []), .pv (.int .i64 (0)), .pv (.int .i64 (0)), .pv (.int .i64 (0))] [], none, 0⟩,
    ⟨(some 14), .mv (.t 5), none, 0⟩,
    ⟨none, .store 7 (.t 2) (.t 13), none, 1⟩,
    ⟨(some 3), .mv (.t 14), none, 7⟩] false)
  (.ret))
  (.skip)))
 (.seq (.reg [⟨(some 15), .mv (.t 4), none, 0⟩,
   ⟨(some 16), .bin .quo (.t 15) (.c (.pv (.int .i64 (65536)))), none, 1⟩,
   ⟨(some 17), .call (.f 76) [.t 16], none, 3⟩,
   ⟨(some 18), .extract (.t 17) 0, none, 7⟩,
   ⟨(some 19), .extract (.t 17) 1, none, 7⟩,
   ⟨none, .store 7 (.t 2) (.t 18), none, 31⟩,
   ⟨(some 3), .mv (.t 19), none, 63⟩] false)
 (.ret))))⟩
end Go.Ab.Fk
