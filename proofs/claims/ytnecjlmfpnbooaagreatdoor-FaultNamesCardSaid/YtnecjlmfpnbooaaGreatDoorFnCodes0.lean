/- The code of functions of the program, printed by a program. Under: nothing. -/
import Derived.Test.YtnecjlmfpnbooaaGreatDoorAbG6
namespace Go.Ab.Fn
open Go.Ab
def c3 : RFn := ⟨3, 58, [.tmp 6],
 .seq (.reg [⟨(some 6), .mv (.c (.pv (.bool false))), none, 0⟩] false)
 (.seq (.seq (.reg [⟨(some 10), .call (.f 4) [], none, 0⟩,
   ⟨(some 11), .not (.t 10), none, 1⟩] false)
 (.cond (.t 11)
  (.seq (.reg [⟨(some 6), .mv (.c (.pv (.bool false))), none, 0⟩] false)
  (.ret))
  (.skip)))
 (.seq (.reg [⟨(some 12), .mv (.t 1), none, 0⟩,
   ⟨(some 13), .mv (.t 1), none, 0⟩,
   ⟨(some 14), .strlen (.t 13), none, 2⟩,
   ⟨(some 15), .mm false [.t 14, .c (.pv (.int .i64 (40)))], none, 6⟩,
   ⟨(some 16), .sslice (.t 12) none (some (.t 15)), none, 15⟩,
   ⟨(some 1), .mv (.t 16), none, 31⟩] false)
 (.seq (.seq (.reg [⟨(some 17), .mv (.t 0), none, 0⟩,
   ⟨(some 18), .mv (.t 2), none, 0⟩,
   ⟨(some 19), .bin .rem (.t 18) (.c (.pv (.int .u8 (50)))), none, 2⟩,
   ⟨(some 20), .conv .i64 (.t 19), none, 6⟩,
   ⟨(some 21), .build [.pv (.int .i64 (0)), .pv (.int .i64 (0))] [(0, 1, .t 17), (1, 1, .t 20)], none, 15⟩,
   ⟨(some 22), .mv (.c (.pv (.int .i64 (0)))), none, 0⟩] false)
 (.block 0
  (.loop [1, 2, 21, 22]
   (.seq (.reg [⟨(some 23), .bin .lss (.t 22) (.c (.pv (.int .i64 (2)))), none, 0⟩] false)
   (.seq (.cond (.t 23)
    (.skip)
    (.exit 0))
   (.seq (.block 1
    (.seq (.reg [⟨(some 24), .index false 2 1 (.t 21) (.t 22), none, 0⟩,
      ⟨(some 8), .mv (.t 24), none, 1⟩] false)
    (.seq (.reg [⟨(some 25), .mv (.t 8), none, 0⟩,
      ⟨(some 26), .call (.f 5) [.t 25], none, 1⟩,
      ⟨(some 27), .mv (.t 8), none, 0⟩,
      ⟨(some 28), .call (.f 6) [.t 27], none, 7⟩,
      ⟨(some 29), .bin .neq (.t 26) (.t 28), none, 15⟩] false)
    (.cond (.t 29)
     (.seq (.reg [⟨(some 6), .mv (.c (.pv (.bool false))), none, 0⟩] false)
     (.ret))
     (.skip)))))
   (.reg [⟨(some 30), .bin .add (.t 22) (.c (.pv (.int .i64 (1)))), none, 0⟩,
     ⟨(some 22), .mv (.t 30), none, 1⟩] false)))))))
 (.seq (.reg [⟨(some 31), .call (.f 7) [], none, 0⟩,
   ⟨(some 9), .mv (.t 31), none, 1⟩] false)
 (.seq (.reg [⟨(some 32), .mv (.t 1), none, 0⟩,
   ⟨(some 33), .call (.f 8) [.t 32], none, 1⟩,
   ⟨(some 34), .mv (.t 1), none, 0⟩,
   ⟨(some 35), .call (.f 9) [.t 34], none, 7⟩,
   ⟨(some 36), .bin .eql (.t 33) (.t 35), none, 15⟩,
   ⟨(some 37), .mv (.t 36), none, 31⟩,
   ⟨(some 38), .mv (.t 9), (some (37, true)), 63⟩,
   ⟨(some 39), .mv (.t 2), (some (37, true)), 63⟩,
   ⟨(some 40), .conv .i64 (.t 39), (some (37, true)), 191⟩,
   ⟨(some 41), .mv (.t 9), (some (37, true)), 63⟩,
   ⟨(some 42), .slen (.t 41), (some (37, true)), 575⟩,
   ⟨(some 43), .bin .rem (.t 40) (.t 42), (some (37, true)), 1983⟩,
   ⟨(some 44), .iaddr 1 (.t 38) (.t 43), (some (37, true)), 4095⟩,
   ⟨(some 45), .load false 1 (.t 44), (some (37, true)), 8191⟩,
   ⟨(some 46), .call (.f 8) [.t 45], (some (37, true)), 16383⟩,
   ⟨(some 47), .mv (.t 9), (some (37, true)), 63⟩,
   ⟨(some 48), .mv (.t 2), (some (37, true)), 63⟩,
   ⟨(some 49), .conv .i64 (.t 48), (some (37, true)), 65599⟩,
   ⟨(some 50), .mv (.t 9), (some (37, true)), 63⟩,
   ⟨(some 51), .slen (.t 50), (some (37, true)), 262207⟩,
   ⟨(some 52), .bin .rem (.t 49) (.t 51), (some (37, true)), 983103⟩,
   ⟨(some 53), .iaddr 1 (.t 47) (.t 52), (some (37, true)), 2064447⟩,
   ⟨(some 54), .load false 1 (.t 53), (some (37, true)), 4161599⟩,
   ⟨(some 55), .call (.f 9) [.t 54], (some (37, true)), 8388607⟩,
   ⟨(some 56), .bin .eql (.t 46) (.t 55), (some (37, true)), 16777215⟩,
   ⟨(some 57), .pick (.t 37) (.t 56) (.c (.pv (.bool false))), none, 33554431⟩,
   ⟨(some 6), .mv (.t 57), none, 67108863⟩] true)
 (.ret))))))⟩
def c4 : RFn := ⟨0, 130, [.tmp 0],
 .seq (.reg [⟨(some 0), .mv (.c (.pv (.bool false))), none, 0⟩] false)
 (.seq (.reg [⟨(some 15), .call (.f 11) [.c (.pv (.int .i64 (1)))], none, 0⟩,
   ⟨(some 16), .call (.f 12) [.c (.pv (.str [97, 100, 100]))], none, 1⟩,
   ⟨(some 17), .call (.f 12) [.c (.pv (.str [116, 121, 112, 101, 99, 104, 101, 99, 107]))], none, 3⟩,
   ⟨(some 18), .bsl 7 3 [.pv (.int .i64 (0)), .pv (.bool false), .pv (.int .i64 (0)), .pv (.str []), .pv (.int .i64 (0)), .pv (.int .i64 (0)), .pv (.int .i64 (0))] [(0, .t 15), (1, .t 16), (2, .t 17)], none, 7⟩,
   ⟨(some 19), .call (.f 10) [.t 18], none, 15⟩,
   ⟨(some 14), .mv (.t 19), none, 31⟩,
   ⟨(some 20), .extract (.t 14) 0, none, 63⟩,
   ⟨(some 21), .extract (.t 14) 1, none, 63⟩,
   ⟨(some 1), .alloc [.emp 7, .emp 7, .emp 7, .emp 3, .pv (.int .i64 (0)), .pv (.int .i64 (0)), .pv (.int .i64 (0)), .pv (.int .i64 (0)), .pv (.int .i64 (0)), .pv (.int .i64 (0)), .pv (.int .i64 (0)), .emp 7, .pv (.int .i64 (0)), .pv (.int .i64 (0)), .pv (.int .i64 (0)), .pv (.int .i64 (0)), .pv (.int .i64 (0)), .pv (.int .i64 (0)), .pv (.int .i64 (0)), .pv (.int .i64 (0)), .pv (.int .i64 (0)), .pv (.int .i64 (0)), .pv (.int .i64 (0)), .pv (.int .i64 (0)), .pv (.int .i64 (0)), .pv (.int .i64 (0)), .pv (.int .i64 (0)), .pv (.int .i64 (0)), .pv (.int .i64 (0)), .pv (.int .i64 (0)), .pv (.int .i64 (0)), .pv (.int .i64 (0)), .pv (.bool false), .pv (.bool false), .emp 47, .pv (.int .i64 (0)), .pv (.int .i64 (0)), .pv (.int .i64 (0)), .pv (.int .i64 (0)), .pv (.int .i64 (0)), .pv (.int .i64 (0)), .pv (.int .i64 (0)), .pv (.int .i64 (0)), .emp 1, .pv (.int .i64 (0)), .pv (.int .i64 (0)), .emp 2, .pv (.int .i64 (0)), .pv (.bool false), .pv (.int .i64 (0)), .pv (.str []), .pv (.int .i64 (0)), .pv (.int .i64 (0)), .pv (.int .i64 (0)), .pv (.int .i64 (0)), .pv (.int .i64 (0)), .pv (.int .i64 (0)), .pv (.int .i64 (0)), .pv (.int .i64 (0)), .pv (.int .i64 (0)), .pv (.int .i64 (0)), .pv (.int .i64 (0)), .emp 57, .emp 47, .emp 3, .pv (.str []), .pv (.int .i64 (0))], none, 0⟩,
   ⟨none, .store 67 (.t 1) (.t 20), none, 383⟩,
   ⟨(some 2), .mv (.t 21), none, 1023⟩] false)
 (.seq (.seq (.reg [⟨(some 22), .mv (.t 2), none, 0⟩,
   ⟨(some 23), .not (.t 22), none, 1⟩,
   ⟨(some 24), .mv (.t 23), none, 3⟩,
   ⟨(some 25), .faddr (.t 1) 2, (some (24, false)), 7⟩,
   ⟨(some 26), .load false 1 (.t 25), (some (24, false)), 15⟩,
   ⟨(some 27), .call (.f 13) [.t 26], (some (24, false)), 31⟩,
   ⟨(some 28), .bin .neq (.t 27) (.c (.pv (.int .i64 (0)))), (some (24, false)), 63⟩,
   ⟨(some 29), .pick (.t 24) (.c (.pv (.bool true))) (.t 28), none, 127⟩] false)
 (.cond (.t 29)
  (.seq (.reg [⟨(some 0), .mv (.c (.pv (.bool false))), none, 0⟩] false)
  (.ret))
  (.skip)))
 (.seq (.reg [⟨(some 31), .load true 67 (.t 1), none, 0⟩,
   ⟨(some 32), .call (.f 14) [.t 31, .c (.pv (.int .i64 (22)))], none, 1⟩,
   ⟨(some 30), .mv (.t 32), none, 3⟩,
   ⟨(some 33), .extract (.t 30) 0, none, 7⟩,
   ⟨(some 34), .extract (.t 30) 1, none, 7⟩,
   ⟨(some 3), .alloc [.pv (.int .i64 (0)), .pv (.bool false), .pv (.int .i64 (0)), .pv (.str []), .pv (.int .i64 (0)), .pv (.int .i64 (0)), .pv (.int .i64 (0))], none, 0⟩,
   ⟨none, .store 7 (.t 3) (.t 33), none, 47⟩,
   ⟨(some 4), .mv (.t 34), none, 127⟩] false)
 (.seq (.reg [⟨(some 36), .faddr (.t 1) 2, none, 0⟩,
   ⟨(some 37), .load false 1 (.t 36), none, 1⟩,
   ⟨(some 38), .load true 7 (.t 3), none, 0⟩,
   ⟨(some 39), .call (.f 15) [.t 37, .t 38], none, 7⟩,
   ⟨(some 35), .mv (.t 39), none, 15⟩,
   ⟨(some 40), .extract (.t 35) 0, none, 31⟩,
   ⟨(some 41), .extract (.t 35) 1, none, 31⟩,
   ⟨(some 5), .mv (.t 40), none, 63⟩,
   ⟨(some 6), .mv (.t 41), none, 255⟩] false)
 (.seq (.reg [⟨(some 43), .load true 67 (.t 1), none, 0⟩,
   ⟨(some 44), .call (.f 16) [.t 43, .c (.pv (.str [46, 114, 101, 99, 111, 114, 100]))], none, 1⟩,
   ⟨(some 42), .mv (.t 44), none, 3⟩,
   ⟨(some 45), .extract (.t 42) 0, none, 7⟩,
   ⟨(some 46), .extract (.t 42) 1, none, 7⟩,
   ⟨(some 7), .alloc [.emp 7, .emp 7, .emp 7, .emp 3, .pv (.int .i64 (0)), .pv (.int .i64 (0)), .pv (.int .i64 (0)), .pv (.int .i64 (0)), .pv (.int .i64 (0)), .pv (.int .i64 (0)), .pv (.int .i64 (0)), .emp 7, .pv (.int .i64 (0)), .pv (.int .i64 (0)), .pv (.int .i64 (0)), .pv (.int .i64 (0)), .pv (.int .i64 (0)), .pv (.int .i64 (0)), .pv (.int .i64 (0)), .pv (.int .i64 (0)), .pv (.int .i64 (0)), .pv (.int .i64 (0)), .pv (.int .i64 (0)), .pv (.int .i64 (0)), .pv (.int .i64 (0)), .pv (.int .i64 (0)), .pv (.int .i64 (0)), .pv (.int .i64 (0)), .pv (.int .i64 (0)), .pv (.int .i64 (0)), .pv (.int .i64 (0)), .pv (.int .i64 (0)), .pv (.bool false), .pv (.bool false), .emp 47, .pv (.int .i64 (0)), .pv (.int .i64 (0)), .pv (.int .i64 (0)), .pv (.int .i64 (0)), .pv (.int .i64 (0)), .pv (.int .i64 (0)), .pv (.int .i64 (0)), .pv (.int .i64 (0)), .emp 1, .pv (.int .i64 (0)), .pv (.int .i64 (0)), .emp 2, .pv (.int .i64 (0)), .pv (.bool false), .pv (.int .i64 (0)), .pv (.str []), .pv (.int .i64 (0)), .pv (.int .i64 (0)), .pv (.int .i64 (0)), .pv (.int .i64 (0)), .pv (.int .i64 (0)), .pv (.int .i64 (0)), .pv (.int .i64 (0)), .pv (.int .i64 (0)), .pv (.int .i64 (0)), .pv (.int .i64 (0)), .pv (.int .i64 (0)), .emp 57, .emp 47, .emp 3, .pv (.str []), .pv (.int .i64 (0))], none, 0⟩,
   ⟨none, .store 67 (.t 7) (.t 45), none, 47⟩,
   ⟨(some 8), .mv (.t 46), none, 127⟩] false)
 (.seq (.reg [⟨(some 48), .load true 67 (.t 7), none, 0⟩,
   ⟨(some 49), .call (.f 16) [.t 48, .c (.pv (.str [104, 97, 110, 100, 108, 101, 101, 114, 114, 111, 114]))], none, 1⟩,
   ⟨(some 47), .mv (.t 49), none, 3⟩,
   ⟨(some 50), .extract (.t 47) 0, none, 7⟩,
   ⟨(some 51), .extract (.t 47) 1, none, 7⟩,
   ⟨(some 9), .alloc [.emp 7, .emp 7, .emp 7, .emp 3, .pv (.int .i64 (0)), .pv (.int .i64 (0)), .pv (.int .i64 (0)), .pv (.int .i64 (0)), .pv (.int .i64 (0)), .pv (.int .i64 (0)), .pv (.int .i64 (0)), .emp 7, .pv (.int .i64 (0)), .pv (.int .i64 (0)), .pv (.int .i64 (0)), .pv (.int .i64 (0)), .pv (.int .i64 (0)), .pv (.int .i64 (0)), .pv (.int .i64 (0)), .pv (.int .i64 (0)), .pv (.int .i64 (0)), .pv (.int .i64 (0)), .pv (.int .i64 (0)), .pv (.int .i64 (0)), .pv (.int .i64 (0)), .pv (.int .i64 (0)), .pv (.int .i64 (0)), .pv (.int .i64 (0)), .pv (.int .i64 (0)), .pv (.int .i64 (0)), .pv (.int .i64 (0)), .pv (.int .i64 (0)), .pv (.bool false), .pv (.bool false), .emp 47, .pv (.int .i64 (0)), .pv (.int .i64 (0)), .pv (.int .i64 (0)), .pv (.int .i64 (0)), .pv (.int .i64 (0)), .pv (.int .i64 (0)), .pv (.int .i64 (0)), .pv (.int .i64 (0)), .emp 1, .pv (.int .i64 (0)), .pv (.int .i64 (0)), .emp 2, .pv (.int .i64 (0)), .pv (.bool false), .pv (.int .i64 (0)), .pv (.str []), .pv (.int .i64 (0)), .pv (.int .i64 (0)), .pv (.int .i64 (0)), .pv (.int .i64 (0)), .pv (.int .i64 (0)), .pv (.int .i64 (0)), .pv (.int .i64 (0)), .pv (.int .i64 (0)), .pv (.int .i64 (0)), .pv (.int .i64 (0)), .pv (.int .i64 (0)), .emp 57, .emp 47, .emp 3, .pv (.str []), .pv (.int .i64 (0))], none, 0⟩,
   ⟨none, .store 67 (.t 9) (.t 50), none, 47⟩,
   ⟨(some 10), .mv (.t 51), none, 127⟩] false)
 (.seq (.reg [⟨(some 53), .load true 67 (.t 9), none, 0⟩,
   ⟨(some 54), .call (.f 16) [.t 53, .c (.pv (.str [104, 97, 110, 100, 108, 101, 101, 114, 114, 111, 114]))], none, 1⟩,
   ⟨(some 52), .mv (.t 54), none, 3⟩,
   ⟨(some 55), .extract (.t 52) 0, none, 7⟩,
   ⟨(some 56), .extract (.t 52) 1, none, 7⟩,
   ⟨(some 11), .alloc [.emp 7, .emp 7, .emp 7, .emp 3, .pv (.int .i64 (0)), .pv (.int .i64 (0)), .pv (.int .i64 (0)), .pv (.int .i64 (0)), .pv (.int .i64 (0)), .pv (.int .i64 (0)), .pv (.int .i64 (0)), .emp 7, .pv (.int .i64 (0)), .pv (.int .i64 (0)), .pv (.int .i64 (0)), .pv (.int .i64 (0)), .pv (.int .i64 (0)), .pv (.int .i64 (0)), .pv (.int .i64 (0)), .pv (.int .i64 (0)), .pv (.int .i64 (0)), .pv (.int .i64 (0)), .pv (.int .i64 (0)), .pv (.int .i64 (0)), .pv (.int .i64 (0)), .pv (.int .i64 (0)), .pv (.int .i64 (0)), .pv (.int .i64 (0)), .pv (.int .i64 (0)), .pv (.int .i64 (0)), .pv (.int .i64 (0)), .pv (.int .i64 (0)), .pv (.bool false), .pv (.bool false), .emp 47, .pv (.int .i64 (0)), .pv (.int .i64 (0)), .pv (.int .i64 (0)), .pv (.int .i64 (0)), .pv (.int .i64 (0)), .pv (.int .i64 (0)), .pv (.int .i64 (0)), .pv (.int .i64 (0)), .emp 1, .pv (.int .i64 (0)), .pv (.int .i64 (0)), .emp 2, .pv (.int .i64 (0)), .pv (.bool false), .pv (.int .i64 (0)), .pv (.str []), .pv (.int .i64 (0)), .pv (.int .i64 (0)), .pv (.int .i64 (0)), .pv (.int .i64 (0)), .pv (.int .i64 (0)), .pv (.int .i64 (0)), .pv (.int .i64 (0)), .pv (.int .i64 (0)), .pv (.int .i64 (0)), .pv (.int .i64 (0)), .pv (.int .i64 (0)), .emp 57, .emp 47, .emp 3, .pv (.str []), .pv (.int .i64 (0))], none, 0⟩,
   ⟨none, .store 67 (.t 11) (.t 55), none, 47⟩,
   ⟨(some 12), .mv (.t 56), none, 127⟩] false)
 (.seq (.seq (.reg [⟨(some 57), .mv (.t 4), none, 0⟩,
   ⟨(some 58), .not (.t 57), none, 1⟩,
   ⟨(some 59), .mv (.t 58), none, 3⟩,
   ⟨(some 60), .mv (.t 6), (some (59, false)), 7⟩,
   ⟨(some 61), .bin .neq (.t 60) (.c (.pv (.int .i64 (0)))), (some (59, false)), 15⟩,
   ⟨(some 62), .pick (.t 59) (.c (.pv (.bool true))) (.t 61), none, 31⟩,
   ⟨(some 63), .mv (.t 62), none, 63⟩,
   ⟨(some 64), .mv (.t 5), (some (63, false)), 127⟩,
   ⟨(some 65), .slen (.t 64), (some (63, false)), 255⟩,
   ⟨(some 66), .bin .neq (.t 65) (.c (.pv (.int .i64 (3)))), (some (63, false)), 511⟩,
   ⟨(some 67), .pick (.t 63) (.c (.pv (.bool true))) (.t 66), none, 1023⟩,
   ⟨(some 68), .mv (.t 67), none, 2047⟩,
   ⟨(some 69), .mv (.t 8), (some (68, false)), 4095⟩,
   ⟨(some 70), .bin .neq (.t 69) (.c (.pv (.int .i64 (0)))), (some (68, false)), 8191⟩,
   ⟨(some 71), .pick (.t 68) (.c (.pv (.bool true))) (.t 70), none, 16383⟩,
   ⟨(some 72), .mv (.t 71), none, 32767⟩,
   ⟨(some 73), .mv (.t 10), (some (72, false)), 65535⟩,
   ⟨(some 74), .bin .neq (.t 73) (.c (.pv (.int .i64 (0)))), (some (72, false)), 131071⟩,
   ⟨(some 75), .pick (.t 72) (.c (.pv (.bool true))) (.t 74), none, 262143⟩,
   ⟨(some 76), .mv (.t 75), none, 524287⟩,
   ⟨(some 77), .mv (.t 12), (some (76, false)), 1048575⟩,
   ⟨(some 78), .bin .neq (.t 77) (.c (.pv (.int .i64 (0)))), (some (76, false)), 2097151⟩,
   ⟨(some 79), .pick (.t 76) (.c (.pv (.bool true))) (.t 78), none, 4194303⟩] false)
 (.cond (.t 79)
  (.seq (.reg [⟨(some 0), .mv (.c (.pv (.bool false))), none, 0⟩] false)
  (.ret))
  (.skip)))
 (.seq (.reg [⟨(some 13), .mv (.c (.pv (.str [37, 37, 91, 32, 69, 114, 114, 111, 114, 58, 32, 116, 121, 112, 101, 99, 104, 101, 99, 107, 59, 32, 79, 102, 102, 101, 110, 100, 105, 110, 103, 67, 111, 109, 109, 97, 110, 100, 58, 32, 97, 100, 100, 32, 93, 37, 37, 10]))), none, 0⟩] false)
 (.seq (.reg [⟨(some 80), .mv (.t 5), none, 0⟩,
   ⟨(some 81), .iaddr 7 (.t 80) (.c (.pv (.int .i64 (0)))), none, 1⟩,
   ⟨(some 82), .load true 7 (.t 81), none, 3⟩,
   ⟨(some 83), .call (.f 12) [.c (.pv (.str [116, 121, 112, 101, 99, 104, 101, 99, 107]))], none, 0⟩,
   ⟨(some 84), .eqs false [0, 1, 0, 2, 0, 0, 0] (.t 82) (.t 83), none, 15⟩,
   ⟨(some 85), .mv (.t 84), none, 31⟩,
   ⟨(some 86), .faddr (.t 7) 0, (some (85, true)), 63⟩,
   ⟨(some 87), .load false 1 (.t 86), (some (85, true)), 127⟩,
   ⟨(some 88), .call (.f 11) [.c (.pv (.int .i64 (1)))], (some (85, true)), 63⟩,
   ⟨(some 89), .bsl 7 1 [.pv (.int .i64 (0)), .pv (.bool false), .pv (.int .i64 (0)), .pv (.str []), .pv (.int .i64 (0)), .pv (.int .i64 (0)), .pv (.int .i64 (0))] [(0, .t 88)], (some (85, true)), 319⟩,
   ⟨(some 90), .call (.f 17) [.t 87, .t 89], (some (85, true)), 1023⟩,
   ⟨(some 91), .pick (.t 85) (.t 90) (.c (.pv (.bool false))), none, 2047⟩,
   ⟨(some 92), .mv (.t 91), none, 4095⟩,
   ⟨(some 93), .load true 67 (.t 7), (some (92, true)), 8191⟩,
   ⟨(some 94), .call (.f 18) [.t 93, .c (.pv (.str [101, 114, 114, 111, 114, 110, 97, 109, 101]))], (some (92, true)), 16383⟩,
   ⟨(some 95), .call (.f 12) [.c (.pv (.str [116, 121, 112, 101, 99, 104, 101, 99, 107]))], (some (92, true)), 32767⟩,
   ⟨(some 96), .eqs false [0, 1, 0, 2, 0, 0, 0] (.t 94) (.t 95), (some (92, true)), 65535⟩,
   ⟨(some 97), .pick (.t 92) (.t 96) (.c (.pv (.bool false))), none, 131071⟩,
   ⟨(some 98), .mv (.t 97), none, 262143⟩,
   ⟨(some 99), .load true 67 (.t 7), (some (98, true)), 524287⟩,
   ⟨(some 100), .call (.f 18) [.t 99, .c (.pv (.str [99, 111, 109, 109, 97, 110, 100]))], (some (98, true)), 1048575⟩,
   ⟨(some 101), .call (.f 12) [.c (.pv (.str [97, 100, 100]))], (some (98, true)), 2097151⟩,
   ⟨(some 102), .eqs false [0, 1, 0, 2, 0, 0, 0] (.t 100) (.t 101), (some (98, true)), 4194303⟩,
   ⟨(some 103), .pick (.t 98) (.t 102) (.c (.pv (.bool false))), none, 8388607⟩,
   ⟨(some 104), .mv (.t 103), none, 16777215⟩,
   ⟨(some 105), .load true 67 (.t 7), (some (104, true)), 33554431⟩,
   ⟨(some 106), .call (.f 18) [.t 105, .c (.pv (.str [110, 101, 119, 101, 114, 114, 111, 114]))], (some (104, true)), 67108863⟩,
   ⟨(some 107), .build [.pv (.int .i64 (0)), .pv (.bool false), .pv (.int .i64 (0)), .pv (.str []), .pv (.int .i64 (0)), .pv (.int .i64 (0)), .pv (.int .i64 (0))] [(0, 1, .c (.pv (.int .i64 (2)))), (2, 1, .c (.pv (.int .i64 (1))))], (some (104, true)), 33554431⟩,
   ⟨(some 108), .eqs false [0, 1, 0, 2, 0, 0, 0] (.t 106) (.t 107), (some (104, true)), 268435455⟩,
   ⟨(some 109), .pick (.t 104) (.t 108) (.c (.pv (.bool false))), none, 536870911⟩,
   ⟨(some 110), .mv (.t 109), none, 1073741823⟩,
   ⟨(some 111), .faddr (.t 9) 65, (some (110, true)), 2147483647⟩,
   ⟨(some 112), .load false 1 (.t 111), (some (110, true)), 4294967295⟩,
   ⟨(some 113), .mv (.t 13), (some (110, true)), 2147483647⟩,
   ⟨(some 114), .bin .eql (.t 112) (.t 113), (some (110, true)), 17179869183⟩,
   ⟨(some 115), .pick (.t 110) (.t 114) (.c (.pv (.bool false))), none, 34359738367⟩,
   ⟨(some 116), .mv (.t 115), none, 68719476735⟩,
   ⟨(some 117), .faddr (.t 11) 65, (some (116, true)), 137438953471⟩,
   ⟨(some 118), .load false 1 (.t 117), (some (116, true)), 274877906943⟩,
   ⟨(some 119), .mv (.t 13), (some (116, true)), 137438953471⟩,
   ⟨(some 120), .bin .eql (.t 118) (.t 119), (some (116, true)), 1099511627775⟩,
   ⟨(some 121), .pick (.t 116) (.t 120) (.c (.pv (.bool false))), none, 2199023255551⟩,
   ⟨(some 122), .mv (.t 121), none, 4398046511103⟩,
   ⟨(some 123), .call (.f 5) [.c (.pv (.int .i64 (22)))], (some (122, true)), 8796093022207⟩,
   ⟨(some 124), .bin .eql (.t 123) (.c (.pv (.str [116, 121, 112, 101, 99, 104, 101, 99, 107]))), (some (122, true)), 17592186044415⟩,
   ⟨(some 125), .pick (.t 122) (.t 124) (.c (.pv (.bool false))), none, 35184372088831⟩,
   ⟨(some 126), .mv (.t 125), none, 70368744177663⟩,
   ⟨(some 127), .call (.f 8) [.c (.pv (.str [100, 105, 99, 116, 102, 117, 108, 108]))], (some (126, true)), 140737488355327⟩,
   ⟨(some 128), .bin .eql (.t 127) (.c (.pv (.int .i64 (30)))), (some (126, true)), 281474976710655⟩,
   ⟨(some 129), .pick (.t 126) (.t 128) (.c (.pv (.bool false))), none, 562949953421311⟩,
   ⟨(some 0), .mv (.t 129), none, 1125899906842623⟩] true)
 (.ret)))))))))))⟩
def c5 : RFn := ⟨1, 13, [.tmp 2],
 .seq (.reg [⟨(some 2), .mv (.c (.pv (.str []))), none, 0⟩] false)
 (.seq (.seq (.reg [⟨(some 3), .mv (.t 0), none, 0⟩,
   ⟨(some 4), .bin .lss (.t 3) (.c (.pv (.int .i64 (20)))), none, 1⟩,
   ⟨(some 5), .mv (.t 4), none, 3⟩,
   ⟨(some 6), .mv (.t 0), (some (5, false)), 7⟩,
   ⟨(some 7), .bin .gtr (.t 6) (.c (.pv (.int .i64 (42)))), (some (5, false)), 15⟩,
   ⟨(some 8), .pick (.t 5) (.c (.pv (.bool true))) (.t 7), none, 31⟩] false)
 (.cond (.t 8)
  (.seq (.reg [⟨(some 2), .mv (.c (.pv (.str []))), none, 0⟩] false)
  (.ret))
  (.skip)))
 (.seq (.reg [⟨(some 9), .call (.f 19) [], none, 0⟩,
   ⟨(some 10), .mv (.t 0), none, 0⟩,
   ⟨(some 11), .bin .sub (.t 10) (.c (.pv (.int .i64 (20)))), none, 2⟩,
   ⟨(some 12), .index false 23 1 (.t 9) (.t 11), none, 7⟩,
   ⟨(some 2), .mv (.t 12), none, 15⟩] false)
 (.ret)))⟩
def c6 : RFn := ⟨1, 20, [.tmp 2],
 .seq (.reg [⟨(some 2), .mv (.c (.pv (.str []))), none, 0⟩] false)
 (.seq (.reg [⟨(some 5), .call (.f 7) [], none, 0⟩,
   ⟨(some 3), .mv (.t 5), none, 1⟩] false)
 (.seq (.seq (.reg [⟨(some 4), .mv (.c (.pv (.int .i64 (0)))), none, 0⟩] false)
 (.block 0
  (.loop [0, 3, 4]
   (.seq (.seq (.reg [⟨(some 6), .mv (.t 4), none, 0⟩,
     ⟨(some 7), .mv (.t 3), none, 0⟩,
     ⟨(some 8), .slen (.t 7), none, 2⟩,
     ⟨(some 9), .bin .lss (.t 6) (.t 8), none, 7⟩] false)
   (.cond (.t 9)
    (.skip)
    (.exit 0)))
   (.seq (.block 1
    (.seq (.reg [⟨(some 12), .mv (.t 0), none, 0⟩,
      ⟨(some 13), .mv (.t 4), none, 0⟩,
      ⟨(some 14), .bin .add (.c (.pv (.int .i64 (20)))) (.t 13), none, 2⟩,
      ⟨(some 15), .bin .eql (.t 12) (.t 14), none, 7⟩] false)
    (.cond (.t 15)
     (.seq (.reg [⟨(some 16), .mv (.t 3), none, 0⟩,
       ⟨(some 17), .mv (.t 4), none, 0⟩,
       ⟨(some 18), .iaddr 1 (.t 16) (.t 17), none, 3⟩,
       ⟨(some 19), .load false 1 (.t 18), none, 7⟩,
       ⟨(some 2), .mv (.t 19), none, 15⟩] false)
     (.ret))
     (.skip))))
   (.reg [⟨(some 10), .mv (.t 4), none, 0⟩,
     ⟨(some 11), .bin .add (.t 10) (.c (.pv (.int .i64 (1)))), none, 1⟩,
     ⟨(some 4), .mv (.t 11), none, 3⟩] false))))))
 (.seq (.reg [⟨(some 2), .mv (.c (.pv (.str []))), none, 0⟩] false)
 (.ret))))⟩
def c7 : RFn := ⟨0, 2, [.tmp 0],
 .seq (.reg [⟨(some 0), .mv (.c (.emp 1)), none, 0⟩] false)
 (.seq (.reg [⟨(some 1), .bsl 1 23 [.pv (.str [])] [(0, .c (.pv (.str [115, 116, 97, 99, 107, 117, 110, 100, 101, 114, 102, 108, 111, 119]))), (1, .c (.pv (.str [115, 116, 97, 99, 107, 111, 118, 101, 114, 102, 108, 111, 119]))), (2, .c (.pv (.str [116, 121, 112, 101, 99, 104, 101, 99, 107]))), (3, .c (.pv (.str [114, 97, 110, 103, 101, 99, 104, 101, 99, 107]))), (4, .c (.pv (.str [117, 110, 100, 101, 102, 105, 110, 101, 100]))), (5, .c (.pv (.str [117, 110, 100, 101, 102, 105, 110, 101, 100, 114, 101, 115, 117, 108, 116]))), (6, .c (.pv (.str [108, 105, 109, 105, 116, 99, 104, 101, 99, 107]))), (7, .c (.pv (.str [86, 77, 101, 114, 114, 111, 114]))), (8, .c (.pv (.str [100, 105, 99, 116, 115, 116, 97, 99, 107, 117, 110, 100, 101, 114, 102, 108, 111, 119]))), (9, .c (.pv (.str [100, 105, 99, 116, 115, 116, 97, 99, 107, 111, 118, 101, 114, 102, 108, 111, 119]))), (10, .c (.pv (.str [100, 105, 99, 116, 102, 117, 108, 108]))), (11, .c (.pv (.str [105, 110, 118, 97, 108, 105, 100, 97, 99, 99, 101, 115, 115]))), (12, .c (.pv (.str [117, 110, 109, 97, 116, 99, 104, 101, 100, 109, 97, 114, 107]))), (13, .c (.pv (.str [105, 110, 118, 97, 108, 105, 100, 101, 120, 105, 116]))), (14, .c (.pv (.str [105, 110, 118, 97, 108, 105, 100, 114, 101, 115, 116, 111, 114, 101]))), (15, .c (.pv (.str [101, 120, 101, 99, 115, 116, 97, 99, 107, 111, 118, 101, 114, 102, 108, 111, 119]))), (16, .c (.pv (.str [105, 111, 101, 114, 114, 111, 114]))), (17, .c (.pv (.str [115, 121, 110, 116, 97, 120, 101, 114, 114, 111, 114]))), (18, .c (.pv (.str [110, 111, 99, 117, 114, 114, 101, 110, 116, 112, 111, 105, 110, 116]))), (19, .c (.pv (.str [105, 110, 118, 97, 108, 105, 100, 102, 111, 110, 116]))), (20, .c (.pv (.str [117, 110, 100, 101, 102, 105, 110, 101, 100, 114, 101, 115, 111, 117, 114, 99, 101]))), (21, .c (.pv (.str [99, 111, 110, 102, 105, 103, 117, 114, 97, 116, 105, 111, 110, 101, 114, 114, 111, 114]))), (22, .c (.pv (.str [116, 105, 109, 101, 111, 117, 116])))], none, 0⟩,
   ⟨(some 0), .mv (.t 1), none, 1⟩] false)
 (.ret))⟩
def c8 : RFn := ⟨1, 16, [.tmp 2],
 .seq (.reg [⟨(some 2), .mv (.c (.pv (.int .i64 (0)))), none, 0⟩] false)
 (.seq (.seq (.reg [⟨(some 5), .call (.f 19) [], none, 0⟩,
   ⟨(some 6), .mv (.c (.pv (.int .i64 (0)))), none, 0⟩] false)
 (.block 0
  (.loop [0, 5, 6]
   (.seq (.reg [⟨(some 7), .bin .lss (.t 6) (.c (.pv (.int .i64 (23)))), none, 0⟩] false)
   (.seq (.cond (.t 7)
    (.skip)
    (.exit 0))
   (.seq (.block 1
    (.seq (.reg [⟨(some 8), .mv (.t 6), none, 0⟩,
      ⟨(some 9), .index false 23 1 (.t 5) (.t 6), none, 0⟩,
      ⟨(some 3), .mv (.t 8), none, 3⟩,
      ⟨(some 4), .mv (.t 9), none, 7⟩] false)
    (.seq (.reg [⟨(some 10), .mv (.t 4), none, 0⟩,
      ⟨(some 11), .mv (.t 0), none, 0⟩,
      ⟨(some 12), .bin .eql (.t 10) (.t 11), none, 3⟩] false)
    (.cond (.t 12)
     (.seq (.reg [⟨(some 13), .mv (.t 3), none, 0⟩,
       ⟨(some 14), .bin .add (.c (.pv (.int .i64 (20)))) (.t 13), none, 1⟩,
       ⟨(some 2), .mv (.t 14), none, 3⟩] false)
     (.ret))
     (.skip)))))
   (.reg [⟨(some 15), .bin .add (.t 6) (.c (.pv (.int .i64 (1)))), none, 0⟩,
     ⟨(some 6), .mv (.t 15), none, 1⟩] false)))))))
 (.seq (.reg [⟨(some 2), .mv (.c (.pv (.int .i64 (0)))), none, 0⟩] false)
 (.ret)))⟩
def c9 : RFn := ⟨1, 20, [.tmp 2],
 .seq (.reg [⟨(some 2), .mv (.c (.pv (.int .i64 (0)))), none, 0⟩] false)
 (.seq (.reg [⟨(some 5), .call (.f 7) [], none, 0⟩,
   ⟨(some 3), .mv (.t 5), none, 1⟩] false)
 (.seq (.seq (.reg [⟨(some 4), .mv (.c (.pv (.int .i64 (0)))), none, 0⟩] false)
 (.block 0
  (.loop [0, 3, 4]
   (.seq (.seq (.reg [⟨(some 6), .mv (.t 4), none, 0⟩,
     ⟨(some 7), .mv (.t 3), none, 0⟩,
     ⟨(some 8), .slen (.t 7), none, 2⟩,
     ⟨(some 9), .bin .lss (.t 6) (.t 8), none, 7⟩] false)
   (.cond (.t 9)
    (.skip)
    (.exit 0)))
   (.seq (.block 1
    (.seq (.reg [⟨(some 12), .mv (.t 3), none, 0⟩,
      ⟨(some 13), .mv (.t 4), none, 0⟩,
      ⟨(some 14), .iaddr 1 (.t 12) (.t 13), none, 3⟩,
      ⟨(some 15), .load false 1 (.t 14), none, 7⟩,
      ⟨(some 16), .mv (.t 0), none, 0⟩,
      ⟨(some 17), .bin .eql (.t 15) (.t 16), none, 31⟩] false)
    (.cond (.t 17)
     (.seq (.reg [⟨(some 18), .mv (.t 4), none, 0⟩,
       ⟨(some 19), .bin .add (.c (.pv (.int .i64 (20)))) (.t 18), none, 1⟩,
       ⟨(some 2), .mv (.t 19), none, 3⟩] false)
     (.ret))
     (.skip))))
   (.reg [⟨(some 10), .mv (.t 4), none, 0⟩,
     ⟨(some 11), .bin .add (.t 10) (.c (.pv (.int .i64 (1)))), none, 1⟩,
     ⟨(some 4), .mv (.t 11), none, 3⟩] false))))))
 (.seq (.reg [⟨(some 2), .mv (.c (.pv (.int .i64 (0)))), none, 0⟩] false)
 (.ret))))⟩
def c10 : RFn := ⟨1, 24, [.cell 2 true 67, .tmp 3],
 .seq (.reg [⟨(some 2), .alloc [.emp 7, .emp 7, .emp 7, .emp 3, .pv (.int .i64 (0)), .pv (.int .i64 (0)), .pv (.int .i64 (0)), .pv (.int .i64 (0)), .pv (.int .i64 (0)), .pv (.int .i64 (0)), .pv (.int .i64 (0)), .emp 7, .pv (.int .i64 (0)), .pv (.int .i64 (0)), .pv (.int .i64 (0)), .pv (.int .i64 (0)), .pv (.int .i64 (0)), .pv (.int .i64 (0)), .pv (.int .i64 (0)), .pv (.int .i64 (0)), .pv (.int .i64 (0)), .pv (.int .i64 (0)), .pv (.int .i64 (0)), .pv (.int .i64 (0)), .pv (.int .i64 (0)), .pv (.int .i64 (0)), .pv (.int .i64 (0)), .pv (.int .i64 (0)), .pv (.int .i64 (0)), .pv (.int .i64 (0)), .pv (.int .i64 (0)), .pv (.int .i64 (0)), .pv (.bool false), .pv (.bool false), .emp 47, .pv (.int .i64 (0)), .pv (.int .i64 (0)), .pv (.int .i64 (0)), .pv (.int .i64 (0)), .pv (.int .i64 (0)), .pv (.int .i64 (0)), .pv (.int .i64 (0)), .pv (.int .i64 (0)), .emp 1, .pv (.int .i64 (0)), .pv (.int .i64 (0)), .emp 2, .pv (.int .i64 (0)), .pv (.bool false), .pv (.int .i64 (0)), .pv (.str []), .pv (.int .i64 (0)), .pv (.int .i64 (0)), .pv (.int .i64 (0)), .pv (.int .i64 (0)), .pv (.int .i64 (0)), .pv (.int .i64 (0)), .pv (.int .i64 (0)), .pv (.int .i64 (0)), .pv (.int .i64 (0)), .pv (.int .i64 (0)), .pv (.int .i64 (0)), .emp 57, .emp 47, .emp 3, .pv (.str []), .pv (.int .i64 (0))], none, 0⟩,
   ⟨(some 3), .mv (.c (.pv (.bool false))), none, 0⟩] false)
 (.seq (.reg [⟨(some 7), .call (.f 21) [.c (.emp 1)], none, 0⟩,
   ⟨(some 8), .call (.f 20) [.t 7], none, 1⟩,
   ⟨(some 6), .mv (.t 8), none, 3⟩,
   ⟨(some 9), .extract (.t 6) 0, none, 7⟩,
   ⟨(some 10), .extract (.t 6) 1, none, 7⟩,
   ⟨(some 4), .mv (.t 9), none, 15⟩,
   ⟨(some 5), .mv (.t 10), none, 63⟩] false)
 (.seq (.reg [⟨(some 11), .mv (.t 4), none, 0⟩,
   ⟨(some 12), .call (.f 22) [.c (.pv (.int .i64 (0)))], none, 0⟩,
   ⟨(some 13), .call (.f 22) [.c (.pv (.int .i64 (1)))], none, 2⟩,
   ⟨(some 14), .bsl 7 2 [.pv (.int .i64 (0)), .pv (.bool false), .pv (.int .i64 (0)), .pv (.str []), .pv (.int .i64 (0)), .pv (.int .i64 (0)), .pv (.int .i64 (0))] [(0, .t 12), (1, .t 13)], none, 6⟩,
   ⟨(some 15), .mv (.t 0), none, 0⟩,
   ⟨(some 16), .build [.emp 7, .emp 7, .emp 7, .emp 3, .pv (.int .i64 (0)), .pv (.int .i64 (0)), .pv (.int .i64 (0)), .pv (.int .i64 (0)), .pv (.int .i64 (0)), .pv (.int .i64 (0)), .pv (.int .i64 (0)), .emp 7, .pv (.int .i64 (0)), .pv (.int .i64 (0)), .pv (.int .i64 (0)), .pv (.int .i64 (0)), .pv (.int .i64 (0)), .pv (.int .i64 (0)), .pv (.int .i64 (0)), .pv (.int .i64 (0)), .pv (.int .i64 (0)), .pv (.int .i64 (0)), .pv (.int .i64 (0)), .pv (.int .i64 (0)), .pv (.int .i64 (0)), .pv (.int .i64 (0)), .pv (.int .i64 (0)), .pv (.int .i64 (0)), .pv (.int .i64 (0)), .pv (.int .i64 (0)), .pv (.int .i64 (0)), .pv (.int .i64 (0)), .pv (.bool false), .pv (.bool false), .emp 47, .pv (.int .i64 (0)), .pv (.int .i64 (0)), .pv (.int .i64 (0)), .pv (.int .i64 (0)), .pv (.int .i64 (0)), .pv (.int .i64 (0)), .pv (.int .i64 (0)), .pv (.int .i64 (0)), .emp 1, .pv (.int .i64 (0)), .pv (.int .i64 (0)), .emp 2, .pv (.int .i64 (0)), .pv (.bool false), .pv (.int .i64 (0)), .pv (.str []), .pv (.int .i64 (0)), .pv (.int .i64 (0)), .pv (.int .i64 (0)), .pv (.int .i64 (0)), .pv (.int .i64 (0)), .pv (.int .i64 (0)), .pv (.int .i64 (0)), .pv (.int .i64 (0)), .pv (.int .i64 (0)), .pv (.int .i64 (0)), .pv (.int .i64 (0)), .emp 57, .emp 47, .emp 3, .pv (.str []), .pv (.int .i64 (0))] [(2, 1, .t 11), (1, 1, .t 14), (0, 1, .t 15)], none, 31⟩,
   ⟨(some 17), .mv (.t 5), none, 0⟩,
   ⟨(some 18), .bin .eql (.t 17) (.c (.pv (.int .i64 (0)))), none, 64⟩,
   ⟨(some 19), .mv (.t 18), none, 198⟩,
   ⟨(some 20), .mv (.t 4), (some (19, true)), 454⟩,
   ⟨(some 21), .slen (.t 20), (some (19, true)), 966⟩,
   ⟨(some 22), .bin .gtr (.t 21) (.c (.pv (.int .i64 (10)))), (some (19, true)), 1990⟩,
   ⟨(some 23), .pick (.t 19) (.t 22) (.c (.pv (.bool false))), none, 4038⟩,
   ⟨none, .store 67 (.t 2) (.t 16), none, 511⟩,
   ⟨(some 3), .mv (.t 23), none, 16383⟩] false)
 (.ret)))⟩
def c11 : RFn := ⟨1, 5, [.cell 2 true 7],
 .seq (.reg [⟨(some 2), .alloc [.pv (.int .i64 (0)), .pv (.bool false), .pv (.int .i64 (0)), .pv (.str []), .pv (.int .i64 (0)), .pv (.int .i64 (0)), .pv (.int .i64 (0))], none, 0⟩] false)
 (.seq (.reg [⟨(some 3), .mv (.t 0), none, 0⟩,
   ⟨(some 4), .build [.pv (.int .i64 (0)), .pv (.bool false), .pv (.int .i64 (0)), .pv (.str []), .pv (.int .i64 (0)), .pv (.int .i64 (0)), .pv (.int .i64 (0))] [(0, 1, .c (.pv (.int .i64 (3)))), (2, 1, .t 3)], none, 1⟩,
   ⟨none, .store 7 (.t 2) (.t 4), none, 3⟩] false)
 (.ret))⟩
def c12 : RFn := ⟨1, 5, [.cell 2 true 7],
 .seq (.reg [⟨(some 2), .alloc [.pv (.int .i64 (0)), .pv (.bool false), .pv (.int .i64 (0)), .pv (.str []), .pv (.int .i64 (0)), .pv (.int .i64 (0)), .pv (.int .i64 (0))], none, 0⟩] false)
 (.seq (.reg [⟨(some 3), .mv (.t 0), none, 0⟩,
   ⟨(some 4), .build [.pv (.int .i64 (0)), .pv (.bool false), .pv (.int .i64 (0)), .pv (.str []), .pv (.int .i64 (0)), .pv (.int .i64 (0)), .pv (.int .i64 (0))] [(0, 1, .c (.pv (.int .i64 (5)))), (3, 1, .t 3)], none, 1⟩,
   ⟨none, .store 7 (.t 2) (.t 4), none, 3⟩] false)
 (.ret))⟩
def c13 : RFn := ⟨1, 32, [.tmp 2],
 .seq (.reg [⟨(some 2), .mv (.c (.pv (.int .i64 (0)))), none, 0⟩] false)
 (.scope
  (.seq (.seq (.reg [⟨(some 9), .mv (.t 0), none, 0⟩,
    ⟨(some 10), .call (.f 23) [.t 9], none, 1⟩,
    ⟨(some 11), .bin .gtr (.t 10) (.c (.pv (.int .i64 (20000)))), none, 3⟩] false)
  (.cond (.t 11)
   (.seq (.reg [⟨(some 2), .mv (.c (.pv (.int .i64 (210)))), none, 0⟩] false)
   (.ret))
   (.skip)))
  (.seq (.reg [⟨(some 12), .mv (.t 0), none, 0⟩,
    ⟨(some 13), .build [.emp 7] [(0, 1, .t 12)], none, 1⟩,
    ⟨(some 3), .alloc [.emp 7], none, 0⟩,
    ⟨none, .store 1 (.t 3) (.t 13), none, 7⟩,
    ⟨(some 4), .mv (.c (.pv (.int .i64 (0)))), none, 15⟩] false)
  (.seq (.skip)
  (.seq (.seq (.reg [⟨(some 14), .mv (.t 0), none, 0⟩,
    ⟨(some 15), .slen (.t 14), none, 1⟩,
    ⟨(some 16), .mv (.c (.pv (.int .i64 (0)))), none, 0⟩] false)
  (.block 0
   (.loop [3, 4, 14, 15, 16]
    (.seq (.reg [⟨(some 17), .bin .lss (.t 16) (.t 15), none, 0⟩] false)
    (.seq (.cond (.t 17)
     (.skip)
     (.exit 0))
    (.seq (.block 1
     (.seq (.reg [⟨(some 18), .iaddr 7 (.t 14) (.t 16), none, 0⟩,
       ⟨(some 19), .load true 7 (.t 18), none, 1⟩,
       ⟨(some 6), .alloc [.pv (.int .i64 (0)), .pv (.str []), .emp 7, .emp 7, .emp 7, .pv (.int .i64 (0)), .pv (.int .i64 (0))], none, 0⟩,
       ⟨none, .store 7 (.t 6) (.t 19), none, 7⟩] false)
     (.seq (.reg [⟨(some 20), .build [.pv .nilFunc, .pv .nilFunc, .pv .nilFunc] [(0, 1, .f 24), (1, 1, .f 25), (2, 1, .f 26)], none, 0⟩,
       ⟨(some 21), .mv (.c (.pv (.int .i64 (0)))), none, 0⟩] false)
     (.block 2
      (.loop [3, 4, 6, 14, 15, 16, 20, 21]
       (.seq (.reg [⟨(some 22), .bin .lss (.t 21) (.c (.pv (.int .i64 (3)))), none, 0⟩] false)
       (.seq (.cond (.t 22)
        (.skip)
        (.exit 2))
       (.seq (.block 3
        (.seq (.reg [⟨(some 23), .index false 3 1 (.t 20) (.t 21), none, 0⟩,
          ⟨(some 8), .mv (.t 23), none, 1⟩] false)
        (.seq (.reg [⟨(some 24), .mv (.t 8), none, 0⟩,
          ⟨(some 25), .load true 1 (.t 3), none, 0⟩,
          ⟨(some 26), .load true 7 (.t 6), none, 0⟩,
          ⟨(some 27), .call (.t 24) [.t 25, .t 26], none, 7⟩,
          ⟨(some 28), .not (.t 27), none, 15⟩] false)
        (.cond (.t 28)
         (.seq (.reg [⟨(some 4), .mv (.c (.pv (.int .i64 (210)))), none, 0⟩] false)
         (.exit 0))
         (.skip)))))
       (.reg [⟨(some 29), .bin .add (.t 21) (.c (.pv (.int .i64 (1)))), none, 0⟩,
         ⟨(some 21), .mv (.t 29), none, 1⟩] false)))))))))
    (.reg [⟨(some 30), .bin .add (.t 16) (.c (.pv (.int .i64 (1)))), none, 0⟩,
      ⟨(some 16), .mv (.t 30), none, 1⟩] false)))))))
  (.seq (.reg [⟨(some 31), .mv (.t 4), none, 0⟩,
    ⟨(some 2), .mv (.t 31), none, 1⟩] false)
  (.ret)))))))⟩
def c14 : RFn := ⟨2, 34, [.cell 4 true 7, .tmp 5],
 .seq (.reg [⟨(some 2), .box 67 (.t 0), none, 0⟩,
   ⟨(some 4), .alloc [.pv (.int .i64 (0)), .pv (.bool false), .pv (.int .i64 (0)), .pv (.str []), .pv (.int .i64 (0)), .pv (.int .i64 (0)), .pv (.int .i64 (0))], none, 0⟩,
   ⟨(some 5), .mv (.c (.pv (.bool false))), none, 0⟩] false)
 (.seq (.reg [⟨(some 10), .mv (.t 1), none, 0⟩,
   ⟨(some 11), .call (.f 5) [.t 10], none, 1⟩,
   ⟨(some 6), .mv (.t 11), none, 3⟩] false)
 (.seq (.seq (.reg [⟨(some 12), .mv (.t 6), none, 0⟩,
   ⟨(some 13), .bin .eql (.t 12) (.c (.pv (.str []))), none, 1⟩,
   ⟨(some 14), .mv (.t 13), none, 3⟩,
   ⟨(some 15), .mv (.t 1), (some (14, false)), 7⟩,
   ⟨(some 16), .bin .eql (.t 15) (.c (.pv (.int .i64 (42)))), (some (14, false)), 15⟩,
   ⟨(some 17), .pick (.t 14) (.c (.pv (.bool true))) (.t 16), none, 31⟩] false)
 (.cond (.t 17)
  (.seq (.reg [⟨(some 18), .build [.pv (.int .i64 (0)), .pv (.bool false), .pv (.int .i64 (0)), .pv (.str []), .pv (.int .i64 (0)), .pv (.int .i64 (0)), .pv (.int .i64 (0))] [], none, 0⟩,
    ⟨none, .store 7 (.t 4) (.t 18), none, 1⟩,
    ⟨(some 5), .mv (.c (.pv (.bool false))), none, 3⟩] false)
  (.ret))
  (.skip)))
 (.seq (.reg [⟨(some 20), .faddr (.t 2) 2, none, 0⟩,
   ⟨(some 21), .load false 1 (.t 20), none, 1⟩,
   ⟨(some 22), .call (.f 28) [.c (.pv (.int .i64 (2)))], none, 0⟩,
   ⟨(some 23), .mv (.t 6), none, 0⟩,
   ⟨(some 24), .call (.f 29) [.t 23], none, 12⟩,
   ⟨(some 25), .call (.f 27) [.t 21, .t 22, .t 24], none, 31⟩,
   ⟨(some 19), .mv (.t 25), none, 63⟩,
   ⟨(some 26), .extract (.t 19) 0, none, 127⟩,
   ⟨(some 27), .extract (.t 19) 1, none, 127⟩,
   ⟨(some 28), .extract (.t 19) 2, none, 127⟩,
   ⟨(some 7), .alloc [.pv (.int .i64 (0)), .pv (.bool false), .pv (.int .i64 (0)), .pv (.str []), .pv (.int .i64 (0)), .pv (.int .i64 (0)), .pv (.int .i64 (0))], none, 0⟩,
   ⟨none, .store 7 (.t 7) (.t 26), none, 1279⟩,
   ⟨(some 8), .mv (.t 27), none, 3583⟩,
   ⟨(some 9), .mv (.t 28), none, 8191⟩] true)
 (.seq (.seq (.reg [⟨(some 29), .mv (.t 9), none, 0⟩,
   ⟨(some 30), .bin .neq (.t 29) (.c (.pv (.int .i64 (0)))), none, 1⟩] false)
 (.cond (.t 30)
  (.seq (.reg [⟨(some 31), .build [.pv (.int .i64 (0)), .pv (.bool false), .pv (.int .i64 (0)), .pv (.str []), .pv (.int .i64 (0)), .pv (.int .i64 (0)), .pv (.int .i64 (0))] [], none, 0⟩,
    ⟨none, .store 7 (.t 4) (.t 31), none, 1⟩,
    ⟨(some 5), .mv (.c (.pv (.bool false))), none, 3⟩] false)
  (.ret))
  (.skip)))
 (.seq (.reg [⟨(some 32), .load true 7 (.t 7), none, 0⟩,
   ⟨(some 33), .mv (.t 8), none, 0⟩,
   ⟨none, .store 7 (.t 4) (.t 32), none, 1⟩,
   ⟨(some 5), .mv (.t 33), none, 7⟩] false)
 (.ret))))))⟩
def c15 : RFn := ⟨2, 34, [.tmp 4, .tmp 5],
 .seq (.reg [⟨(some 3), .box 7 (.t 1), none, 0⟩,
   ⟨(some 4), .mv (.c (.emp 7)), none, 0⟩,
   ⟨(some 5), .mv (.c (.pv (.int .i64 (0)))), none, 2⟩] false)
 (.seq (.reg [⟨(some 9), .mv (.t 0), none, 0⟩,
   ⟨(some 10), .load true 7 (.t 3), none, 0⟩,
   ⟨(some 11), .bsl 1 2 [.pv (.int .i64 (0))] [(0, .c (.pv (.int .i64 (7)))), (1, .c (.pv (.int .i64 (8))))], none, 0⟩,
   ⟨(some 12), .call (.f 30) [.t 9, .t 10, .t 11], none, 7⟩,
   ⟨(some 8), .mv (.t 12), none, 15⟩,
   ⟨(some 13), .extract (.t 8) 0, none, 31⟩,
   ⟨(some 14), .extract (.t 8) 1, none, 31⟩,
   ⟨(some 6), .alloc [.emp 7, .pv (.int .i64 (0)), .pv (.bool false), .pv (.int .i64 (0)), .pv (.str []), .pv (.int .i64 (0)), .pv (.int .i64 (0)), .pv (.int .i64 (0))], none, 0⟩,
   ⟨none, .store 8 (.t 6) (.t 13), none, 191⟩,
   ⟨(some 7), .mv (.t 14), none, 511⟩] false)
 (.seq (.seq (.reg [⟨(some 15), .mv (.t 7), none, 0⟩,
   ⟨(some 16), .bin .neq (.t 15) (.c (.pv (.int .i64 (0)))), none, 1⟩] false)
 (.cond (.t 16)
  (.seq (.reg [⟨(some 17), .mv (.t 7), none, 0⟩,
    ⟨(some 4), .mv (.c (.emp 7)), none, 0⟩,
    ⟨(some 5), .mv (.t 17), none, 3⟩] false)
  (.ret))
  (.skip)))
 (.seq (.reg [⟨(some 18), .load true 8 (.t 6), none, 0⟩,
   ⟨(some 19), .call (.f 31) [.t 18], none, 1⟩,
   ⟨(some 20), .field false 2 1 (.t 19), none, 3⟩,
   ⟨(some 21), .faddr (.t 3) 5, none, 0⟩,
   ⟨(some 22), .load false 1 (.t 21), none, 8⟩,
   ⟨(some 23), .faddr (.t 3) 5, none, 0⟩,
   ⟨(some 24), .load false 1 (.t 23), none, 32⟩,
   ⟨(some 25), .faddr (.t 3) 6, none, 0⟩,
   ⟨(some 26), .load false 1 (.t 25), none, 128⟩,
   ⟨(some 27), .bin .add (.t 24) (.t 26), none, 480⟩,
   ⟨(some 28), .faddr (.t 3) 5, none, 0⟩,
   ⟨(some 29), .load false 1 (.t 28), none, 1024⟩,
   ⟨(some 30), .faddr (.t 3) 6, none, 0⟩,
   ⟨(some 31), .load false 1 (.t 30), none, 4096⟩,
   ⟨(some 32), .bin .add (.t 29) (.t 31), none, 15360⟩,
   ⟨(some 33), .slice 7 (.t 20) (some (.t 22)) (some (.t 27)) (some (.t 32)), none, 32767⟩,
   ⟨(some 4), .mv (.t 33), none, 65535⟩,
   ⟨(some 5), .mv (.c (.pv (.int .i64 (0)))), none, 131071⟩] true)
 (.ret))))⟩
def c16 : RFn := ⟨2, 26, [.cell 4 true 67, .tmp 5],
 .seq (.reg [⟨(some 2), .box 67 (.t 0), none, 0⟩,
   ⟨(some 4), .alloc [.emp 7, .emp 7, .emp 7, .emp 3, .pv (.int .i64 (0)), .pv (.int .i64 (0)), .pv (.int .i64 (0)), .pv (.int .i64 (0)), .pv (.int .i64 (0)), .pv (.int .i64 (0)), .pv (.int .i64 (0)), .emp 7, .pv (.int .i64 (0)), .pv (.int .i64 (0)), .pv (.int .i64 (0)), .pv (.int .i64 (0)), .pv (.int .i64 (0)), .pv (.int .i64 (0)), .pv (.int .i64 (0)), .pv (.int .i64 (0)), .pv (.int .i64 (0)), .pv (.int .i64 (0)), .pv (.int .i64 (0)), .pv (.int .i64 (0)), .pv (.int .i64 (0)), .pv (.int .i64 (0)), .pv (.int .i64 (0)), .pv (.int .i64 (0)), .pv (.int .i64 (0)), .pv (.int .i64 (0)), .pv (.int .i64 (0)), .pv (.int .i64 (0)), .pv (.bool false), .pv (.bool false), .emp 47, .pv (.int .i64 (0)), .pv (.int .i64 (0)), .pv (.int .i64 (0)), .pv (.int .i64 (0)), .pv (.int .i64 (0)), .pv (.int .i64 (0)), .pv (.int .i64 (0)), .pv (.int .i64 (0)), .emp 1, .pv (.int .i64 (0)), .pv (.int .i64 (0)), .emp 2, .pv (.int .i64 (0)), .pv (.bool false), .pv (.int .i64 (0)), .pv (.str []), .pv (.int .i64 (0)), .pv (.int .i64 (0)), .pv (.int .i64 (0)), .pv (.int .i64 (0)), .pv (.int .i64 (0)), .pv (.int .i64 (0)), .pv (.int .i64 (0)), .pv (.int .i64 (0)), .pv (.int .i64 (0)), .pv (.int .i64 (0)), .pv (.int .i64 (0)), .emp 57, .emp 47, .emp 3, .pv (.str []), .pv (.int .i64 (0))], none, 0⟩,
   ⟨(some 5), .mv (.c (.pv (.int .i64 (0)))), none, 0⟩] false)
 (.seq (.reg [⟨(some 9), .mkmap, none, 0⟩,
   ⟨none, .insert (.t 9) (.c (.pv (.str [46, 114, 101, 99, 111, 114, 100]))) (.f 32), none, 1⟩,
   ⟨none, .insert (.t 9) (.c (.pv (.str [104, 97, 110, 100, 108, 101, 101, 114, 114, 111, 114]))) (.f 33), none, 1⟩,
   ⟨(some 10), .mv (.t 9), none, 7⟩,
   ⟨(some 6), .mv (.t 10), none, 15⟩] false)
 (.seq (.reg [⟨(some 12), .mv (.t 6), none, 0⟩,
   ⟨(some 13), .mv (.t 1), none, 0⟩,
   ⟨(some 14), .lookup (.t 12) (.t 13) (.pv .nilFunc), none, 3⟩,
   ⟨(some 11), .mv (.t 14), none, 7⟩,
   ⟨(some 15), .extract (.t 11) 0, none, 15⟩,
   ⟨(some 16), .extract (.t 11) 1, none, 15⟩,
   ⟨(some 7), .mv (.t 15), none, 31⟩,
   ⟨(some 8), .mv (.t 16), none, 127⟩] false)
 (.seq (.seq (.reg [⟨(some 17), .mv (.t 8), none, 0⟩,
   ⟨(some 18), .not (.t 17), none, 1⟩] false)
 (.cond (.t 18)
  (.seq (.reg [⟨(some 19), .load true 67 (.t 2), none, 0⟩,
    ⟨none, .store 67 (.t 4) (.t 19), none, 1⟩,
    ⟨(some 5), .mv (.c (.pv (.int .i64 (24)))), none, 3⟩] false)
  (.ret))
  (.skip)))
 (.seq (.reg [⟨(some 20), .mv (.t 7), none, 0⟩,
   ⟨(some 21), .load true 67 (.t 2), none, 0⟩,
   ⟨(some 22), .build [.emp 7, .emp 7, .emp 7, .emp 3, .pv (.int .i64 (0)), .pv (.int .i64 (0)), .pv (.int .i64 (0)), .pv (.int .i64 (0)), .pv (.int .i64 (0)), .pv (.int .i64 (0)), .pv (.int .i64 (0)), .emp 7, .pv (.int .i64 (0)), .pv (.int .i64 (0)), .pv (.int .i64 (0)), .pv (.int .i64 (0)), .pv (.int .i64 (0)), .pv (.int .i64 (0)), .pv (.int .i64 (0)), .pv (.int .i64 (0)), .pv (.int .i64 (0)), .pv (.int .i64 (0)), .pv (.int .i64 (0)), .pv (.int .i64 (0)), .pv (.int .i64 (0)), .pv (.int .i64 (0)), .pv (.int .i64 (0)), .pv (.int .i64 (0)), .pv (.int .i64 (0)), .pv (.int .i64 (0)), .pv (.int .i64 (0)), .pv (.int .i64 (0)), .pv (.bool false), .pv (.bool false), .emp 47, .pv (.int .i64 (0)), .pv (.int .i64 (0)), .pv (.int .i64 (0)), .pv (.int .i64 (0)), .pv (.int .i64 (0)), .pv (.int .i64 (0)), .pv (.int .i64 (0)), .pv (.int .i64 (0)), .emp 1, .pv (.int .i64 (0)), .pv (.int .i64 (0)), .emp 2, .pv (.int .i64 (0)), .pv (.bool false), .pv (.int .i64 (0)), .pv (.str []), .pv (.int .i64 (0)), .pv (.int .i64 (0)), .pv (.int .i64 (0)), .pv (.int .i64 (0)), .pv (.int .i64 (0)), .pv (.int .i64 (0)), .pv (.int .i64 (0)), .pv (.int .i64 (0)), .pv (.int .i64 (0)), .pv (.int .i64 (0)), .pv (.int .i64 (0)), .emp 57, .emp 47, .emp 3, .pv (.str []), .pv (.int .i64 (0))] [(0, 67, .t 21)], none, 2⟩,
   ⟨(some 23), .call (.t 20) [.t 22], none, 7⟩,
   ⟨(some 24), .extract (.t 23) 0, none, 15⟩,
   ⟨(some 25), .extract (.t 23) 1, none, 15⟩,
   ⟨none, .store 67 (.t 4) (.t 24), none, 63⟩,
   ⟨(some 5), .mv (.t 25), none, 127⟩] false)
 (.ret)))))⟩
def c17 : RFn := ⟨2, 26, [.tmp 4],
 .seq (.reg [⟨(some 4), .mv (.c (.pv (.bool false))), none, 0⟩] false)
 (.seq (.seq (.reg [⟨(some 6), .mv (.t 0), none, 0⟩,
   ⟨(some 7), .slen (.t 6), none, 1⟩,
   ⟨(some 8), .mv (.t 1), none, 0⟩,
   ⟨(some 9), .slen (.t 8), none, 4⟩,
   ⟨(some 10), .bin .neq (.t 7) (.t 9), none, 15⟩] false)
 (.cond (.t 10)
  (.seq (.reg [⟨(some 4), .mv (.c (.pv (.bool false))), none, 0⟩] false)
  (.ret))
  (.skip)))
 (.seq (.seq (.reg [⟨(some 11), .mv (.t 0), none, 0⟩,
   ⟨(some 12), .slen (.t 11), none, 1⟩,
   ⟨(some 13), .mv (.c (.pv (.int .i64 (0)))), none, 0⟩] false)
 (.block 0
  (.loop [0, 1, 12, 13]
   (.seq (.reg [⟨(some 14), .bin .lss (.t 13) (.t 12), none, 0⟩] false)
   (.seq (.cond (.t 14)
    (.skip)
    (.exit 0))
   (.seq (.block 1
    (.seq (.reg [⟨(some 15), .mv (.t 13), none, 0⟩,
      ⟨(some 5), .mv (.t 15), none, 1⟩] false)
    (.seq (.reg [⟨(some 16), .mv (.t 0), none, 0⟩,
      ⟨(some 17), .mv (.t 5), none, 0⟩,
      ⟨(some 18), .iaddr 7 (.t 16) (.t 17), none, 3⟩,
      ⟨(some 19), .load true 7 (.t 18), none, 7⟩,
      ⟨(some 20), .mv (.t 1), none, 0⟩,
      ⟨(some 21), .mv (.t 5), none, 0⟩,
      ⟨(some 22), .iaddr 7 (.t 20) (.t 21), none, 48⟩,
      ⟨(some 23), .load true 7 (.t 22), none, 112⟩,
      ⟨(some 24), .eqs true [0, 1, 0, 2, 0, 0, 0] (.t 19) (.t 23), none, 255⟩] true)
    (.cond (.t 24)
     (.seq (.reg [⟨(some 4), .mv (.c (.pv (.bool false))), none, 0⟩] false)
     (.ret))
     (.skip)))))
   (.reg [⟨(some 25), .bin .add (.t 13) (.c (.pv (.int .i64 (1)))), none, 0⟩,
     ⟨(some 13), .mv (.t 25), none, 1⟩] false)))))))
 (.seq (.reg [⟨(some 4), .mv (.c (.pv (.bool true))), none, 0⟩] false)
 (.ret))))⟩
def c18 : RFn := ⟨2, 19, [.cell 4 true 7],
 .seq (.reg [⟨(some 2), .box 67 (.t 0), none, 0⟩,
   ⟨(some 4), .alloc [.pv (.int .i64 (0)), .pv (.bool false), .pv (.int .i64 (0)), .pv (.str []), .pv (.int .i64 (0)), .pv (.int .i64 (0)), .pv (.int .i64 (0))], none, 0⟩] false)
 (.seq (.reg [⟨(some 9), .faddr (.t 2) 2, none, 0⟩,
   ⟨(some 10), .load false 1 (.t 9), none, 1⟩,
   ⟨(some 11), .call (.f 22) [.c (.pv (.int .i64 (3)))], none, 0⟩,
   ⟨(some 12), .mv (.t 1), none, 0⟩,
   ⟨(some 13), .call (.f 12) [.t 12], none, 12⟩,
   ⟨(some 14), .call (.f 27) [.t 10, .t 11, .t 13], none, 31⟩,
   ⟨(some 8), .mv (.t 14), none, 63⟩,
   ⟨(some 15), .extract (.t 8) 0, none, 127⟩,
   ⟨(some 16), .extract (.t 8) 1, none, 127⟩,
   ⟨(some 17), .extract (.t 8) 2, none, 127⟩,
   ⟨(some 5), .alloc [.pv (.int .i64 (0)), .pv (.bool false), .pv (.int .i64 (0)), .pv (.str []), .pv (.int .i64 (0)), .pv (.int .i64 (0)), .pv (.int .i64 (0))], none, 0⟩,
   ⟨none, .store 7 (.t 5) (.t 15), none, 1279⟩,
   ⟨(some 6), .mv (.t 16), none, 3583⟩,
   ⟨(some 7), .mv (.t 17), none, 8191⟩] true)
 (.seq (.reg [⟨(some 18), .load true 7 (.t 5), none, 0⟩,
   ⟨none, .store 7 (.t 4) (.t 18), none, 1⟩] false)
 (.ret)))⟩
def c19 : RFn := ⟨0, 2, [.cell 0 true 23],
 .seq (.reg [⟨(some 0), .alloc [.pv (.str []), .pv (.str []), .pv (.str []), .pv (.str []), .pv (.str []), .pv (.str []), .pv (.str []), .pv (.str []), .pv (.str []), .pv (.str []), .pv (.str []), .pv (.str []), .pv (.str []), .pv (.str []), .pv (.str []), .pv (.str []), .pv (.str []), .pv (.str []), .pv (.str []), .pv (.str []), .pv (.str []), .pv (.str []), .pv (.str [])], none, 0⟩] false)
 (.seq (.reg [⟨(some 1), .build [.pv (.str []), .pv (.str []), .pv (.str []), .pv (.str []), .pv (.str []), .pv (.str []), .pv (.str []), .pv (.str []), .pv (.str []), .pv (.str []), .pv (.str []), .pv (.str []), .pv (.str []), .pv (.str []), .pv (.str []), .pv (.str []), .pv (.str []), .pv (.str []), .pv (.str []), .pv (.str []), .pv (.str []), .pv (.str []), .pv (.str [])] [(0, 1, .c (.pv (.str [115, 116, 97, 99, 107, 117, 110, 100, 101, 114, 102, 108, 111, 119]))), (1, 1, .c (.pv (.str [115, 116, 97, 99, 107, 111, 118, 101, 114, 102, 108, 111, 119]))), (2, 1, .c (.pv (.str [116, 121, 112, 101, 99, 104, 101, 99, 107]))), (3, 1, .c (.pv (.str [114, 97, 110, 103, 101, 99, 104, 101, 99, 107]))), (4, 1, .c (.pv (.str [117, 110, 100, 101, 102, 105, 110, 101, 100]))), (5, 1, .c (.pv (.str [117, 110, 100, 101, 102, 105, 110, 101, 100, 114, 101, 115, 117, 108, 116]))), (6, 1, .c (.pv (.str [108, 105, 109, 105, 116, 99, 104, 101, 99, 107]))), (7, 1, .c (.pv (.str [86, 77, 101, 114, 114, 111, 114]))), (8, 1, .c (.pv (.str [100, 105, 99, 116, 115, 116, 97, 99, 107, 117, 110, 100, 101, 114, 102, 108, 111, 119]))), (9, 1, .c (.pv (.str [100, 105, 99, 116, 115, 116, 97, 99, 107, 111, 118, 101, 114, 102, 108, 111, 119]))), (10, 1, .c (.pv (.str [100, 105, 99, 116, 102, 117, 108, 108]))), (11, 1, .c (.pv (.str [105, 110, 118, 97, 108, 105, 100, 97, 99, 99, 101, 115, 115]))), (12, 1, .c (.pv (.str [117, 110, 109, 97, 116, 99, 104, 101, 100, 109, 97, 114, 107]))), (13, 1, .c (.pv (.str [105, 110, 118, 97, 108, 105, 100, 101, 120, 105, 116]))), (14, 1, .c (.pv (.str [105, 110, 118, 97, 108, 105, 100, 114, 101, 115, 116, 111, 114, 101]))), (15, 1, .c (.pv (.str [101, 120, 101, 99, 115, 116, 97, 99, 107, 111, 118, 101, 114, 102, 108, 111, 119]))), (16, 1, .c (.pv (.str [105, 111, 101, 114, 114, 111, 114]))), (17, 1, .c (.pv (.str [115, 121, 110, 116, 97, 120, 101, 114, 114, 111, 114]))), (18, 1, .c (.pv (.str [110, 111, 99, 117, 114, 114, 101, 110, 116, 112, 111, 105, 110, 116]))), (19, 1, .c (.pv (.str [105, 110, 118, 97, 108, 105, 100, 102, 111, 110, 116]))), (20, 1, .c (.pv (.str [117, 110, 100, 101, 102, 105, 110, 101, 100, 114, 101, 115, 111, 117, 114, 99, 101]))), (21, 1, .c (.pv (.str [99, 111, 110, 102, 105, 103, 117, 114, 97, 116, 105, 111, 110, 101, 114, 114, 111, 114]))), (22, 1, .c (.pv (.str [116, 105, 109, 101, 111, 117, 116])))], none, 0⟩,
   ⟨none, .store 23 (.t 0) (.t 1), none, 1⟩] false)
 (.ret))⟩
def c20 : RFn := ⟨1, 61, [.tmp 2, .tmp 3],
 .seq (.reg [⟨(some 2), .mv (.c (.emp 7)), none, 0⟩,
   ⟨(some 3), .mv (.c (.pv (.int .i64 (0)))), none, 1⟩] false)
 (.seq (.seq (.reg [⟨(some 9), .mv (.t 0), none, 0⟩,
   ⟨(some 10), .call (.f 28) [.c (.pv (.int .i64 (2)))], none, 0⟩,
   ⟨(some 11), .call (.f 34) [.t 9, .t 10], none, 3⟩,
   ⟨(some 12), .not (.t 11), none, 7⟩,
   ⟨(some 13), .mv (.t 12), none, 15⟩,
   ⟨(some 14), .mv (.t 0), (some (13, false)), 31⟩,
   ⟨(some 15), .call (.f 28) [.c (.pv (.int .i64 (3)))], (some (13, false)), 31⟩,
   ⟨(some 16), .call (.f 34) [.t 14, .t 15], (some (13, false)), 127⟩,
   ⟨(some 17), .not (.t 16), (some (13, false)), 255⟩,
   ⟨(some 18), .pick (.t 13) (.c (.pv (.bool true))) (.t 17), none, 511⟩] false)
 (.cond (.t 18)
  (.seq (.reg [⟨(some 2), .mv (.c (.emp 7)), none, 0⟩,
    ⟨(some 3), .mv (.c (.pv (.int .i64 (2)))), none, 1⟩] false)
  (.ret))
  (.skip)))
 (.seq (.seq (.reg [⟨(some 19), .call (.f 19) [], none, 0⟩,
   ⟨(some 20), .mv (.c (.pv (.int .i64 (0)))), none, 0⟩] false)
 (.block 0
  (.loop [0, 19, 20]
   (.seq (.reg [⟨(some 21), .bin .lss (.t 20) (.c (.pv (.int .i64 (23)))), none, 0⟩] false)
   (.seq (.cond (.t 21)
    (.skip)
    (.exit 0))
   (.seq (.block 1
    (.seq (.reg [⟨(some 22), .mv (.t 20), none, 0⟩,
      ⟨(some 23), .index false 23 1 (.t 19) (.t 20), none, 0⟩,
      ⟨(some 4), .mv (.t 22), none, 3⟩,
      ⟨(some 5), .mv (.t 23), none, 7⟩] false)
    (.seq (.seq (.reg [⟨(some 24), .mv (.t 4), none, 0⟩,
      ⟨(some 25), .bin .add (.c (.pv (.int .i64 (20)))) (.t 24), none, 1⟩,
      ⟨(some 26), .bin .eql (.t 25) (.c (.pv (.int .i64 (42)))), none, 3⟩] false)
    (.cond (.t 26)
     (.exit 1)
     (.skip)))
    (.seq (.reg [⟨(some 28), .mv (.t 0), none, 0⟩,
      ⟨(some 29), .mv (.t 5), none, 0⟩,
      ⟨(some 30), .call (.f 29) [.t 29], none, 2⟩,
      ⟨(some 31), .call (.f 36) [.c (.pv (.str [46, 114, 101, 99, 111, 114, 100]))], none, 6⟩,
      ⟨(some 32), .call (.f 36) [.c (.pv (.str [115, 116, 111, 112]))], none, 14⟩,
      ⟨(some 33), .bsl 7 3 [.pv (.int .i64 (0)), .pv (.bool false), .pv (.int .i64 (0)), .pv (.str []), .pv (.int .i64 (0)), .pv (.int .i64 (0)), .pv (.int .i64 (0))] [(0, .t 30), (1, .t 31), (2, .t 32)], none, 30⟩,
      ⟨(some 34), .call (.f 35) [.t 28, .c (.pv (.bool true)), .t 33], none, 63⟩,
      ⟨(some 27), .mv (.t 34), none, 127⟩,
      ⟨(some 35), .extract (.t 27) 0, none, 255⟩,
      ⟨(some 36), .extract (.t 27) 1, none, 255⟩,
      ⟨(some 37), .extract (.t 27) 2, none, 255⟩,
      ⟨(some 7), .alloc [.pv (.int .i64 (0)), .pv (.bool false), .pv (.int .i64 (0)), .pv (.str []), .pv (.int .i64 (0)), .pv (.int .i64 (0)), .pv (.int .i64 (0))], none, 0⟩,
      ⟨(some 6), .mv (.t 35), none, 2559⟩,
      ⟨none, .store 7 (.t 7) (.t 36), none, 7167⟩,
      ⟨(some 8), .mv (.t 37), none, 16383⟩] false)
    (.seq (.seq (.reg [⟨(some 38), .mv (.t 8), none, 0⟩,
      ⟨(some 39), .bin .neq (.t 38) (.c (.pv (.int .i64 (0)))), none, 1⟩] false)
    (.cond (.t 39)
     (.seq (.reg [⟨(some 40), .mv (.t 8), none, 0⟩,
       ⟨(some 2), .mv (.c (.emp 7)), none, 0⟩,
       ⟨(some 3), .mv (.t 40), none, 3⟩] false)
     (.ret))
     (.skip)))
    (.seq (.reg [⟨(some 42), .mv (.t 6), none, 0⟩,
      ⟨(some 43), .call (.f 28) [.c (.pv (.int .i64 (2)))], none, 0⟩,
      ⟨(some 44), .mv (.t 5), none, 0⟩,
      ⟨(some 45), .call (.f 29) [.t 44], none, 6⟩,
      ⟨(some 46), .load true 7 (.t 7), none, 0⟩,
      ⟨(some 47), .call (.f 37) [.t 42, .t 43, .t 45, .t 46], none, 31⟩,
      ⟨(some 41), .mv (.t 47), none, 63⟩,
      ⟨(some 48), .extract (.t 41) 0, none, 127⟩,
      ⟨(some 49), .extract (.t 41) 1, none, 127⟩,
      ⟨(some 0), .mv (.t 48), none, 255⟩,
      ⟨(some 8), .mv (.t 49), none, 1023⟩] true)
    (.seq (.reg [⟨(some 50), .mv (.t 8), none, 0⟩,
      ⟨(some 51), .bin .neq (.t 50) (.c (.pv (.int .i64 (0)))), none, 1⟩] false)
    (.cond (.t 51)
     (.seq (.reg [⟨(some 52), .mv (.t 8), none, 0⟩,
       ⟨(some 2), .mv (.c (.emp 7)), none, 0⟩,
       ⟨(some 3), .mv (.t 52), none, 3⟩] false)
     (.ret))
     (.skip)))))))))
   (.reg [⟨(some 53), .bin .add (.t 20) (.c (.pv (.int .i64 (1)))), none, 0⟩,
     ⟨(some 20), .mv (.t 53), none, 1⟩] false)))))))
 (.seq (.reg [⟨(some 54), .mv (.t 0), none, 0⟩,
   ⟨(some 55), .call (.f 28) [.c (.pv (.int .i64 (3)))], none, 0⟩,
   ⟨(some 56), .call (.f 29) [.c (.pv (.str [110, 101, 119, 101, 114, 114, 111, 114]))], none, 2⟩,
   ⟨(some 57), .call (.f 38) [.c (.pv (.bool false))], none, 6⟩,
   ⟨(some 58), .call (.f 37) [.t 54, .t 55, .t 56, .t 57], none, 15⟩,
   ⟨(some 59), .extract (.t 58) 0, none, 31⟩,
   ⟨(some 60), .extract (.t 58) 1, none, 31⟩,
   ⟨(some 2), .mv (.t 59), none, 127⟩,
   ⟨(some 3), .mv (.t 60), none, 255⟩] false)
 (.ret))))⟩
def c21 : RFn := ⟨1, 89, [.tmp 2],
 .seq (.reg [⟨(some 2), .mv (.c (.emp 7)), none, 0⟩] false)
 (.seq (.reg [⟨(some 7), .call (.f 39) [.c (.pv (.int .i64 (200)))], none, 0⟩,
   ⟨(some 8), .call (.f 39) [.c (.pv (.int .i64 (50)))], none, 1⟩,
   ⟨(some 9), .call (.f 39) [.c (.pv (.int .i64 (30)))], none, 3⟩,
   ⟨(some 10), .call (.f 39) [.c (.pv (.int .i64 (12)))], none, 7⟩,
   ⟨(some 11), .call (.f 39) [.c (.pv (.int .i64 (5)))], none, 15⟩,
   ⟨(some 12), .bsl 7 5 [.pv (.int .i64 (0)), .pv (.str []), .emp 7, .emp 7, .emp 7, .pv (.int .i64 (0)), .pv (.int .i64 (0))] [(0, .t 7), (1, .t 8), (2, .t 9), (3, .t 10), (4, .t 11)], none, 31⟩,
   ⟨(some 3), .mv (.t 12), none, 63⟩] false)
 (.seq (.seq (.reg [⟨(some 4), .mv (.c (.pv (.int .i64 (0)))), none, 0⟩] false)
 (.block 0
  (.loop [0, 3, 4]
   (.seq (.seq (.reg [⟨(some 13), .mv (.t 4), none, 0⟩,
     ⟨(some 14), .mv (.t 0), none, 0⟩,
     ⟨(some 15), .slen (.t 14), none, 2⟩,
     ⟨(some 16), .bin .lss (.t 13) (.t 15), none, 7⟩,
     ⟨(some 17), .mv (.t 16), none, 15⟩,
     ⟨(some 18), .mv (.t 4), (some (17, true)), 31⟩,
     ⟨(some 19), .bin .lss (.t 18) (.c (.pv (.int .i64 (200)))), (some (17, true)), 63⟩,
     ⟨(some 20), .pick (.t 17) (.t 19) (.c (.pv (.bool false))), none, 127⟩] false)
   (.cond (.t 20)
    (.skip)
    (.exit 0)))
   (.seq (.block 1
    (.seq (.reg [⟨(some 23), .mv (.t 3), none, 0⟩,
      ⟨(some 24), .mv (.t 3), none, 0⟩,
      ⟨(some 25), .iaddr 7 (.t 24) (.c (.pv (.int .i64 (0)))), none, 2⟩,
      ⟨(some 26), .faddr (.t 25) 3, none, 6⟩,
      ⟨(some 27), .load false 1 (.t 26), none, 14⟩,
      ⟨(some 28), .mv (.t 0), none, 0⟩,
      ⟨(some 29), .mv (.t 4), none, 0⟩,
      ⟨(some 30), .iaddr 1 (.t 28) (.t 29), none, 96⟩,
      ⟨(some 31), .load false 1 (.t 30), none, 224⟩,
      ⟨(some 32), .call (.f 40) [.t 31], none, 480⟩,
      ⟨(some 33), .bsl 7 1 [.pv (.int .i64 (0)), .pv (.bool false), .pv (.int .i64 (0)), .pv (.str []), .pv (.int .i64 (0)), .pv (.int .i64 (0)), .pv (.int .i64 (0))] [(0, .t 32)], none, 992⟩,
      ⟨(some 34), .append 7 64 (.t 27) (.t 33), none, 2046⟩,
      ⟨(some 35), .iaddr 7 (.t 23) (.c (.pv (.int .i64 (0)))), none, 4095⟩,
      ⟨(some 36), .faddr (.t 35) 3, none, 8191⟩,
      ⟨none, .store 1 (.t 36) (.t 34), none, 16383⟩] true)
    (.reg [⟨(some 37), .mv (.t 3), none, 0⟩,
      ⟨(some 38), .mv (.t 3), none, 0⟩,
      ⟨(some 39), .iaddr 7 (.t 38) (.c (.pv (.int .i64 (0)))), none, 2⟩,
      ⟨(some 40), .faddr (.t 39) 4, none, 6⟩,
      ⟨(some 41), .load false 1 (.t 40), none, 14⟩,
      ⟨(some 42), .mv (.t 0), none, 0⟩,
      ⟨(some 43), .mv (.t 4), none, 0⟩,
      ⟨(some 44), .iaddr 1 (.t 42) (.t 43), none, 96⟩,
      ⟨(some 45), .load false 1 (.t 44), none, 224⟩,
      ⟨(some 46), .build [.pv (.int .i64 (0)), .pv (.bool false), .pv (.int .i64 (0)), .pv (.str []), .pv (.int .i64 (0)), .pv (.int .i64 (0)), .pv (.int .i64 (0))] [(0, 1, .c (.pv (.int .i64 (10)))), (1, 1, .c (.pv (.bool true))), (3, 1, .t 45)], none, 480⟩,
      ⟨(some 47), .bsl 7 1 [.pv (.int .i64 (0)), .pv (.bool false), .pv (.int .i64 (0)), .pv (.str []), .pv (.int .i64 (0)), .pv (.int .i64 (0)), .pv (.int .i64 (0))] [(0, .t 46)], none, 992⟩,
      ⟨(some 48), .append 7 64 (.t 41) (.t 47), none, 2046⟩,
      ⟨(some 49), .iaddr 7 (.t 37) (.c (.pv (.int .i64 (0)))), none, 4095⟩,
      ⟨(some 50), .faddr (.t 49) 4, none, 8191⟩,
      ⟨none, .store 1 (.t 50) (.t 48), none, 16383⟩] true)))
   (.reg [⟨(some 21), .mv (.t 4), none, 0⟩,
     ⟨(some 22), .bin .add (.t 21) (.c (.pv (.int .i64 (1)))), none, 1⟩,
     ⟨(some 4), .mv (.t 22), none, 3⟩] false))))))
 (.seq (.reg [⟨(some 51), .call (.f 41) [], none, 0⟩,
   ⟨(some 5), .mv (.t 51), none, 1⟩] false)
 (.seq (.seq (.reg [⟨(some 6), .mv (.c (.pv (.int .i64 (0)))), none, 0⟩] false)
 (.block 2
  (.loop [3, 5, 6]
   (.seq (.seq (.reg [⟨(some 52), .mv (.t 6), none, 0⟩,
     ⟨(some 53), .mv (.t 5), none, 0⟩,
     ⟨(some 54), .slen (.t 53), none, 2⟩,
     ⟨(some 55), .bin .lss (.t 52) (.t 54), none, 7⟩] false)
   (.cond (.t 55)
    (.skip)
    (.exit 2)))
   (.seq (.block 3
    (.seq (.reg [⟨(some 58), .mv (.t 3), none, 0⟩,
      ⟨(some 59), .mv (.t 3), none, 0⟩,
      ⟨(some 60), .iaddr 7 (.t 59) (.c (.pv (.int .i64 (4)))), none, 2⟩,
      ⟨(some 61), .faddr (.t 60) 3, none, 6⟩,
      ⟨(some 62), .load false 1 (.t 61), none, 14⟩,
      ⟨(some 63), .mv (.t 5), none, 0⟩,
      ⟨(some 64), .mv (.t 6), none, 0⟩,
      ⟨(some 65), .iaddr 1 (.t 63) (.t 64), none, 96⟩,
      ⟨(some 66), .load false 1 (.t 65), none, 224⟩,
      ⟨(some 67), .call (.f 40) [.t 66], none, 480⟩,
      ⟨(some 68), .bsl 7 1 [.pv (.int .i64 (0)), .pv (.bool false), .pv (.int .i64 (0)), .pv (.str []), .pv (.int .i64 (0)), .pv (.int .i64 (0)), .pv (.int .i64 (0))] [(0, .t 67)], none, 992⟩,
      ⟨(some 69), .append 7 64 (.t 62) (.t 68), none, 2046⟩,
      ⟨(some 70), .iaddr 7 (.t 58) (.c (.pv (.int .i64 (4)))), none, 4095⟩,
      ⟨(some 71), .faddr (.t 70) 3, none, 8191⟩,
      ⟨none, .store 1 (.t 71) (.t 69), none, 16383⟩] true)
    (.seq (.reg [⟨(some 72), .mv (.t 3), none, 0⟩,
      ⟨(some 73), .mv (.t 3), none, 0⟩,
      ⟨(some 74), .iaddr 7 (.t 73) (.c (.pv (.int .i64 (4)))), none, 2⟩,
      ⟨(some 75), .faddr (.t 74) 4, none, 6⟩,
      ⟨(some 76), .load false 1 (.t 75), none, 14⟩,
      ⟨(some 77), .mv (.t 6), none, 0⟩,
      ⟨(some 78), .bin .add (.c (.pv (.int .i64 (5)))) (.t 77), none, 32⟩,
      ⟨(some 79), .build [.pv (.int .i64 (0)), .pv (.bool false), .pv (.int .i64 (0)), .pv (.str []), .pv (.int .i64 (0)), .pv (.int .i64 (0)), .pv (.int .i64 (0))] [(0, 1, .c (.pv (.int .i64 (9)))), (4, 1, .t 78)], none, 96⟩,
      ⟨(some 80), .bsl 7 1 [.pv (.int .i64 (0)), .pv (.bool false), .pv (.int .i64 (0)), .pv (.str []), .pv (.int .i64 (0)), .pv (.int .i64 (0)), .pv (.int .i64 (0))] [(0, .t 79)], none, 224⟩,
      ⟨(some 81), .append 7 64 (.t 76) (.t 80), none, 510⟩,
      ⟨(some 82), .iaddr 7 (.t 72) (.c (.pv (.int .i64 (4)))), none, 1023⟩,
      ⟨(some 83), .faddr (.t 82) 4, none, 2047⟩,
      ⟨none, .store 1 (.t 83) (.t 81), none, 4095⟩] false)
    (.reg [⟨(some 84), .mv (.t 3), none, 0⟩,
      ⟨(some 85), .call (.f 39) [.c (.pv (.int .i64 (10)))], none, 0⟩,
      ⟨(some 86), .bsl 7 1 [.pv (.int .i64 (0)), .pv (.str []), .emp 7, .emp 7, .emp 7, .pv (.int .i64 (0)), .pv (.int .i64 (0))] [(0, .t 85)], none, 2⟩,
      ⟨(some 87), .append 7 112 (.t 84) (.t 86), none, 7⟩,
      ⟨(some 3), .mv (.t 87), none, 15⟩] false))))
   (.reg [⟨(some 56), .mv (.t 6), none, 0⟩,
     ⟨(some 57), .bin .add (.t 56) (.c (.pv (.int .i64 (1)))), none, 1⟩,
     ⟨(some 6), .mv (.t 57), none, 3⟩] false))))))
 (.seq (.reg [⟨(some 88), .mv (.t 3), none, 0⟩,
   ⟨(some 2), .mv (.t 88), none, 1⟩] false)
 (.ret))))))⟩
def c22 : RFn := ⟨1, 5, [.cell 2 true 7],
 .seq (.reg [⟨(some 2), .alloc [.pv (.int .i64 (0)), .pv (.bool false), .pv (.int .i64 (0)), .pv (.str []), .pv (.int .i64 (0)), .pv (.int .i64 (0)), .pv (.int .i64 (0))], none, 0⟩] false)
 (.seq (.reg [⟨(some 3), .mv (.t 0), none, 0⟩,
   ⟨(some 4), .build [.pv (.int .i64 (0)), .pv (.bool false), .pv (.int .i64 (0)), .pv (.str []), .pv (.int .i64 (0)), .pv (.int .i64 (0)), .pv (.int .i64 (0))] [(0, 1, .c (.pv (.int .i64 (9)))), (4, 1, .t 3)], none, 1⟩,
   ⟨none, .store 7 (.t 2) (.t 4), none, 3⟩] false)
 (.ret))⟩
def c23 : RFn := ⟨1, 18, [.tmp 2],
 .seq (.reg [⟨(some 2), .mv (.c (.pv (.int .i64 (0)))), none, 0⟩] false)
 (.seq (.reg [⟨(some 3), .mv (.c (.pv (.int .i64 (0)))), none, 0⟩] false)
 (.seq (.seq (.reg [⟨(some 6), .mv (.t 0), none, 0⟩,
   ⟨(some 7), .slen (.t 6), none, 1⟩,
   ⟨(some 8), .mv (.c (.pv (.int .i64 (0)))), none, 0⟩] false)
 (.block 0
  (.loop [3, 6, 7, 8]
   (.seq (.reg [⟨(some 9), .bin .lss (.t 8) (.t 7), none, 0⟩] false)
   (.seq (.cond (.t 9)
    (.skip)
    (.exit 0))
   (.seq (.block 1
    (.seq (.reg [⟨(some 10), .iaddr 7 (.t 6) (.t 8), none, 0⟩,
      ⟨(some 11), .load true 7 (.t 10), none, 1⟩,
      ⟨(some 5), .alloc [.pv (.int .i64 (0)), .pv (.str []), .emp 7, .emp 7, .emp 7, .pv (.int .i64 (0)), .pv (.int .i64 (0))], none, 0⟩,
      ⟨none, .store 7 (.t 5) (.t 11), none, 7⟩] false)
    (.reg [⟨(some 12), .mv (.t 3), none, 0⟩,
      ⟨(some 13), .load true 7 (.t 5), none, 0⟩,
      ⟨(some 14), .call (.f 42) [.t 13], none, 2⟩,
      ⟨(some 15), .bin .add (.t 12) (.t 14), none, 7⟩,
      ⟨(some 3), .mv (.t 15), none, 15⟩] false)))
   (.reg [⟨(some 16), .bin .add (.t 8) (.c (.pv (.int .i64 (1)))), none, 0⟩,
     ⟨(some 8), .mv (.t 16), none, 1⟩] false)))))))
 (.seq (.reg [⟨(some 17), .mv (.t 3), none, 0⟩,
   ⟨(some 2), .mv (.t 17), none, 1⟩] false)
 (.ret))))⟩
def c24 : RFn := ⟨2, 74, [.tmp 4],
 .seq (.reg [⟨(some 2), .box 1 (.t 0), none, 0⟩,
   ⟨(some 3), .box 7 (.t 1), none, 0⟩,
   ⟨(some 4), .mv (.c (.pv (.bool false))), none, 0⟩] false)
 (.seq (.reg [⟨(some 7), .faddr (.t 3) 2, none, 0⟩,
   ⟨(some 8), .load false 1 (.t 7), none, 1⟩,
   ⟨(some 9), .slen (.t 8), none, 3⟩,
   ⟨(some 10), .faddr (.t 3) 3, none, 0⟩,
   ⟨(some 11), .load false 1 (.t 10), none, 8⟩,
   ⟨(some 12), .slen (.t 11), none, 24⟩,
   ⟨(some 13), .faddr (.t 3) 4, none, 0⟩,
   ⟨(some 14), .load false 1 (.t 13), none, 64⟩,
   ⟨(some 15), .slen (.t 14), none, 192⟩,
   ⟨(some 16), .bin .add (.t 12) (.t 15), none, 504⟩,
   ⟨(some 5), .mv (.t 9), none, 7⟩,
   ⟨(some 6), .mv (.t 16), none, 2047⟩] true)
 (.seq (.seq (.reg [⟨(some 17), .faddr (.t 3) 0, none, 0⟩,
   ⟨(some 18), .load false 1 (.t 17), none, 1⟩] false)
 (.block 0
  (.seq (.reg [⟨(some 20), .bin .eql (.t 18) (.c (.pv (.int .i64 (1)))), none, 0⟩,
    ⟨(some 19), .mv (.t 20), none, 1⟩] false)
  (.cond (.t 19)
   (.seq (.reg [⟨(some 21), .mv (.t 5), none, 0⟩,
     ⟨(some 22), .mv (.t 6), none, 0⟩,
     ⟨(some 23), .bin .add (.t 21) (.t 22), none, 3⟩,
     ⟨(some 24), .bin .eql (.t 23) (.c (.pv (.int .i64 (0)))), none, 7⟩,
     ⟨(some 25), .mv (.t 24), none, 15⟩,
     ⟨(some 26), .faddr (.t 3) 5, (some (25, true)), 31⟩,
     ⟨(some 27), .load false 1 (.t 26), (some (25, true)), 63⟩,
     ⟨(some 28), .bin .eql (.t 27) (.c (.pv (.int .i64 (0)))), (some (25, true)), 127⟩,
     ⟨(some 29), .pick (.t 25) (.t 28) (.c (.pv (.bool false))), none, 255⟩,
     ⟨(some 30), .mv (.t 29), none, 511⟩,
     ⟨(some 31), .faddr (.t 3) 6, (some (30, true)), 1023⟩,
     ⟨(some 32), .load false 1 (.t 31), (some (30, true)), 2047⟩,
     ⟨(some 33), .bin .eql (.t 32) (.c (.pv (.int .i64 (0)))), (some (30, true)), 4095⟩,
     ⟨(some 34), .pick (.t 30) (.t 33) (.c (.pv (.bool false))), none, 8191⟩,
     ⟨(some 4), .mv (.t 34), none, 16383⟩] false)
   (.ret))
   (.seq (.reg [⟨(some 36), .bin .eql (.t 18) (.c (.pv (.int .i64 (2)))), none, 0⟩,
     ⟨(some 35), .mv (.t 36), none, 1⟩] false)
   (.cond (.t 35)
    (.seq (.reg [⟨(some 37), .faddr (.t 3) 1, none, 0⟩,
      ⟨(some 38), .load false 1 (.t 37), none, 1⟩,
      ⟨(some 39), .bin .eql (.t 38) (.c (.pv (.str []))), none, 3⟩,
      ⟨(some 40), .mv (.t 39), none, 7⟩,
      ⟨(some 41), .mv (.t 6), (some (40, true)), 15⟩,
      ⟨(some 42), .bin .eql (.t 41) (.c (.pv (.int .i64 (0)))), (some (40, true)), 31⟩,
      ⟨(some 43), .pick (.t 40) (.t 42) (.c (.pv (.bool false))), none, 63⟩,
      ⟨(some 44), .mv (.t 43), none, 127⟩,
      ⟨(some 45), .faddr (.t 3) 5, (some (44, true)), 255⟩,
      ⟨(some 46), .load false 1 (.t 45), (some (44, true)), 511⟩,
      ⟨(some 47), .bin .eql (.t 46) (.c (.pv (.int .i64 (0)))), (some (44, true)), 1023⟩,
      ⟨(some 48), .pick (.t 44) (.t 47) (.c (.pv (.bool false))), none, 2047⟩,
      ⟨(some 49), .mv (.t 48), none, 4095⟩,
      ⟨(some 50), .faddr (.t 3) 6, (some (49, true)), 8191⟩,
      ⟨(some 51), .load false 1 (.t 50), (some (49, true)), 16383⟩,
      ⟨(some 52), .bin .eql (.t 51) (.c (.pv (.int .i64 (0)))), (some (49, true)), 32767⟩,
      ⟨(some 53), .pick (.t 49) (.t 52) (.c (.pv (.bool false))), none, 65535⟩,
      ⟨(some 4), .mv (.t 53), none, 131071⟩] false)
    (.ret))
    (.seq (.reg [⟨(some 55), .bin .eql (.t 18) (.c (.pv (.int .i64 (3)))), none, 0⟩,
      ⟨(some 54), .mv (.t 55), none, 1⟩] false)
    (.cond (.t 54)
     (.seq (.reg [⟨(some 56), .faddr (.t 3) 1, none, 0⟩,
       ⟨(some 57), .load false 1 (.t 56), none, 1⟩,
       ⟨(some 58), .bin .eql (.t 57) (.c (.pv (.str []))), none, 3⟩,
       ⟨(some 59), .mv (.t 58), none, 7⟩,
       ⟨(some 60), .mv (.t 5), (some (59, true)), 15⟩,
       ⟨(some 61), .bin .eql (.t 60) (.c (.pv (.int .i64 (0)))), (some (59, true)), 31⟩,
       ⟨(some 62), .pick (.t 59) (.t 61) (.c (.pv (.bool false))), none, 63⟩,
       ⟨(some 63), .mv (.t 62), none, 127⟩,
       ⟨(some 64), .faddr (.t 3) 6, (some (63, true)), 255⟩,
       ⟨(some 65), .load false 1 (.t 64), (some (63, true)), 511⟩,
       ⟨(some 66), .bin .eql (.t 65) (.c (.pv (.int .i64 (0)))), (some (63, true)), 1023⟩,
       ⟨(some 67), .pick (.t 63) (.t 66) (.c (.pv (.bool false))), none, 2047⟩,
       ⟨(some 4), .mv (.t 67), none, 4095⟩] false)
     (.ret))
     (.seq (.reg [⟨(some 69), .bin .eql (.t 18) (.c (.pv (.int .i64 (4)))), none, 0⟩,
       ⟨(some 68), .mv (.t 69), none, 1⟩] false)
     (.cond (.t 68)
      (.seq (.reg [⟨(some 70), .mv (.t 5), none, 0⟩,
        ⟨(some 71), .mv (.t 6), none, 0⟩,
        ⟨(some 72), .bin .add (.t 70) (.t 71), none, 3⟩,
        ⟨(some 73), .bin .eql (.t 72) (.c (.pv (.int .i64 (0)))), none, 7⟩,
        ⟨(some 4), .mv (.t 73), none, 15⟩] false)
      (.ret))
      (.skip)))))))))))
 (.seq (.reg [⟨(some 4), .mv (.c (.pv (.bool false))), none, 0⟩] false)
 (.ret))))⟩
def c25 : RFn := ⟨2, 73, [.tmp 4],
 .seq (.reg [⟨(some 2), .box 1 (.t 0), none, 0⟩,
   ⟨(some 3), .box 7 (.t 1), none, 0⟩,
   ⟨(some 4), .mv (.c (.pv (.bool false))), none, 0⟩] false)
 (.seq (.seq (.reg [⟨(some 5), .faddr (.t 3) 0, none, 0⟩,
   ⟨(some 6), .load false 1 (.t 5), none, 1⟩] false)
 (.block 0
  (.seq (.reg [⟨(some 8), .bin .eql (.t 6) (.c (.pv (.int .i64 (1)))), none, 0⟩,
    ⟨(some 7), .mv (.t 8), none, 1⟩] false)
  (.cond (.t 7)
   (.seq (.reg [⟨(some 9), .faddr (.t 3) 1, none, 0⟩,
     ⟨(some 10), .load false 1 (.t 9), none, 1⟩,
     ⟨(some 11), .strlen (.t 10), none, 3⟩,
     ⟨(some 12), .bin .leq (.t 11) (.c (.pv (.int .i64 (1000)))), none, 7⟩,
     ⟨(some 4), .mv (.t 12), none, 15⟩] false)
   (.ret))
   (.seq (.reg [⟨(some 14), .bin .eql (.t 6) (.c (.pv (.int .i64 (2)))), none, 0⟩,
     ⟨(some 13), .mv (.t 14), none, 1⟩] false)
   (.cond (.t 13)
    (.seq (.reg [⟨(some 15), .faddr (.t 3) 2, none, 0⟩,
      ⟨(some 16), .load false 1 (.t 15), none, 1⟩,
      ⟨(some 17), .slen (.t 16), none, 3⟩,
      ⟨(some 18), .bin .leq (.t 17) (.c (.pv (.int .i64 (1000)))), none, 7⟩,
      ⟨(some 4), .mv (.t 18), none, 15⟩] false)
    (.ret))
    (.seq (.reg [⟨(some 20), .bin .eql (.t 6) (.c (.pv (.int .i64 (3)))), none, 0⟩,
      ⟨(some 19), .mv (.t 20), none, 1⟩] false)
    (.cond (.t 19)
     (.seq (.reg [⟨(some 21), .faddr (.t 3) 5, none, 0⟩,
       ⟨(some 22), .load false 1 (.t 21), none, 1⟩,
       ⟨(some 23), .bin .geq (.t 22) (.c (.pv (.int .i64 (0)))), none, 3⟩,
       ⟨(some 24), .mv (.t 23), none, 7⟩,
       ⟨(some 25), .faddr (.t 3) 5, (some (24, true)), 15⟩,
       ⟨(some 26), .load false 1 (.t 25), (some (24, true)), 31⟩,
       ⟨(some 27), .bin .leq (.t 26) (.c (.pv (.int .i64 (200)))), (some (24, true)), 63⟩,
       ⟨(some 28), .pick (.t 24) (.t 27) (.c (.pv (.bool false))), none, 127⟩,
       ⟨(some 29), .mv (.t 28), none, 255⟩,
       ⟨(some 30), .faddr (.t 3) 3, (some (29, true)), 511⟩,
       ⟨(some 31), .load false 1 (.t 30), (some (29, true)), 1023⟩,
       ⟨(some 32), .slen (.t 31), (some (29, true)), 2047⟩,
       ⟨(some 33), .faddr (.t 3) 4, (some (29, true)), 511⟩,
       ⟨(some 34), .load false 1 (.t 33), (some (29, true)), 4607⟩,
       ⟨(some 35), .slen (.t 34), (some (29, true)), 12799⟩,
       ⟨(some 36), .bin .eql (.t 32) (.t 35), (some (29, true)), 32767⟩,
       ⟨(some 37), .pick (.t 29) (.t 36) (.c (.pv (.bool false))), none, 65535⟩,
       ⟨(some 38), .mv (.t 37), none, 131071⟩,
       ⟨(some 39), .faddr (.t 3) 3, (some (38, true)), 262143⟩,
       ⟨(some 40), .load false 1 (.t 39), (some (38, true)), 524287⟩,
       ⟨(some 41), .slen (.t 40), (some (38, true)), 1048575⟩,
       ⟨(some 42), .faddr (.t 3) 5, (some (38, true)), 262143⟩,
       ⟨(some 43), .load false 1 (.t 42), (some (38, true)), 2359295⟩,
       ⟨(some 44), .bin .leq (.t 41) (.t 43), (some (38, true)), 8388607⟩,
       ⟨(some 45), .pick (.t 38) (.t 44) (.c (.pv (.bool false))), none, 16777215⟩,
       ⟨(some 4), .mv (.t 45), none, 33554431⟩] false)
     (.ret))
     (.skip)))))))))
 (.seq (.reg [⟨(some 46), .faddr (.t 3) 1, none, 0⟩,
   ⟨(some 47), .load false 1 (.t 46), none, 1⟩,
   ⟨(some 48), .strlen (.t 47), none, 3⟩,
   ⟨(some 49), .bin .leq (.t 48) (.c (.pv (.int .i64 (4000)))), none, 7⟩,
   ⟨(some 50), .mv (.t 49), none, 15⟩,
   ⟨(some 51), .faddr (.t 3) 6, (some (50, true)), 31⟩,
   ⟨(some 52), .load false 1 (.t 51), (some (50, true)), 63⟩,
   ⟨(some 53), .bin .geq (.t 52) (.c (.pv (.int .i64 (0)))), (some (50, true)), 127⟩,
   ⟨(some 54), .pick (.t 50) (.t 53) (.c (.pv (.bool false))), none, 255⟩,
   ⟨(some 55), .mv (.t 54), none, 511⟩,
   ⟨(some 56), .faddr (.t 3) 6, (some (55, true)), 1023⟩,
   ⟨(some 57), .load false 1 (.t 56), (some (55, true)), 2047⟩,
   ⟨(some 58), .faddr (.t 3) 1, (some (55, true)), 1023⟩,
   ⟨(some 59), .load false 1 (.t 58), (some (55, true)), 5119⟩,
   ⟨(some 60), .strlen (.t 59), (some (55, true)), 13311⟩,
   ⟨(some 61), .bin .leq (.t 57) (.t 60), (some (55, true)), 32767⟩,
   ⟨(some 62), .pick (.t 55) (.t 61) (.c (.pv (.bool false))), none, 65535⟩,
   ⟨(some 63), .mv (.t 62), none, 131071⟩,
   ⟨(some 64), .faddr (.t 3) 5, (some (63, true)), 262143⟩,
   ⟨(some 65), .load false 1 (.t 64), (some (63, true)), 524287⟩,
   ⟨(some 66), .bin .eql (.t 65) (.c (.pv (.int .i64 (0)))), (some (63, true)), 1048575⟩,
   ⟨(some 67), .mv (.t 66), (some (63, true)), 2097151⟩,
   ⟨(some 68), .faddr (.t 3) 5, (some (67, false)), 4194303⟩,
   ⟨(some 69), .load false 1 (.t 68), (some (67, false)), 8388607⟩,
   ⟨(some 70), .bin .eql (.t 69) (.c (.pv (.int .i64 (1)))), (some (67, false)), 16777215⟩,
   ⟨(some 71), .pick (.t 67) (.c (.pv (.bool true))) (.t 70), (some (63, true)), 33554431⟩,
   ⟨(some 72), .pick (.t 63) (.t 71) (.c (.pv (.bool false))), none, 67108863⟩,
   ⟨(some 4), .mv (.t 72), none, 134217727⟩] false)
 (.ret)))⟩
def c26 : RFn := ⟨2, 47, [.cell 4 false 1],
 .seq (.reg [⟨(some 2), .box 1 (.t 0), none, 0⟩,
   ⟨(some 3), .box 7 (.t 1), none, 0⟩,
   ⟨(some 4), .alloc [.pv (.bool false)], none, 0⟩] false)
 (.seq (.seq (.reg [⟨(some 10), .load true 7 (.t 3), none, 0⟩,
   ⟨(some 11), .call (.f 43) [.t 10], none, 1⟩] false)
 (.block 0
  (.rng (.t 11) [12]
   (.reg [⟨(some 5), .alloc [.pv (.int .i64 (0)), .pv (.bool false), .pv (.int .i64 (0)), .pv (.str []), .pv (.int .i64 (0)), .pv (.int .i64 (0)), .pv (.int .i64 (0))], none, 0⟩,
     ⟨none, .store 7 (.t 5) (.t 12), none, 1⟩] false)
   (.block 1
    (.seq (.reg [⟨(some 13), .faddr (.t 2) 0, none, 0⟩,
      ⟨(some 14), .load false 1 (.t 13), none, 1⟩,
      ⟨(some 15), .load true 7 (.t 5), none, 0⟩,
      ⟨(some 16), .call (.f 34) [.t 14, .t 15], none, 7⟩,
      ⟨(some 17), .not (.t 16), none, 15⟩] false)
    (.cond (.t 17)
     (.seq (.reg [⟨none, .store 1 (.t 4) (.c (.pv (.bool false))), none, 0⟩] false)
     (.ret))
     (.skip)))))))
 (.seq (.seq (.reg [⟨(some 18), .faddr (.t 3) 3, none, 0⟩,
   ⟨(some 19), .load false 1 (.t 18), none, 1⟩,
   ⟨(some 20), .slen (.t 19), none, 3⟩,
   ⟨(some 21), .mv (.c (.pv (.int .i64 (0)))), none, 0⟩] false)
 (.block 2
  (.loop [3, 4, 19, 20, 21]
   (.seq (.reg [⟨(some 22), .bin .lss (.t 21) (.t 20), none, 0⟩] false)
   (.seq (.cond (.t 22)
    (.skip)
    (.exit 2))
   (.seq (.block 3
    (.seq (.reg [⟨(some 23), .mv (.t 21), none, 0⟩,
      ⟨(some 24), .iaddr 7 (.t 19) (.t 21), none, 0⟩,
      ⟨(some 25), .load true 7 (.t 24), none, 2⟩,
      ⟨(some 7), .alloc [.pv (.int .i64 (0)), .pv (.bool false), .pv (.int .i64 (0)), .pv (.str []), .pv (.int .i64 (0)), .pv (.int .i64 (0)), .pv (.int .i64 (0))], none, 0⟩,
      ⟨(some 6), .mv (.t 23), none, 15⟩,
      ⟨none, .store 7 (.t 7) (.t 25), none, 31⟩] false)
    (.seq (.reg [⟨(some 27), .load true 7 (.t 7), none, 0⟩,
      ⟨(some 28), .call (.f 44) [.t 27], none, 1⟩,
      ⟨(some 26), .mv (.t 28), none, 3⟩,
      ⟨(some 29), .extract (.t 26) 0, none, 7⟩,
      ⟨(some 30), .extract (.t 26) 1, none, 7⟩,
      ⟨(some 8), .alloc [.pv (.int .i64 (0)), .pv (.bool false), .pv (.int .i64 (0)), .pv (.str []), .pv (.int .i64 (0)), .pv (.int .i64 (0)), .pv (.int .i64 (0))], none, 0⟩,
      ⟨none, .store 7 (.t 8) (.t 29), none, 47⟩,
      ⟨(some 9), .mv (.t 30), none, 127⟩] false)
    (.seq (.reg [⟨(some 31), .mv (.t 9), none, 0⟩,
      ⟨(some 32), .bin .neq (.t 31) (.c (.pv (.int .i64 (0)))), none, 1⟩,
      ⟨(some 33), .mv (.t 32), none, 3⟩,
      ⟨(some 34), .load true 7 (.t 8), (some (33, false)), 7⟩,
      ⟨(some 35), .load true 7 (.t 7), (some (33, false)), 7⟩,
      ⟨(some 36), .eqs true [0, 1, 0, 2, 0, 0, 0] (.t 34) (.t 35), (some (33, false)), 31⟩,
      ⟨(some 37), .pick (.t 33) (.c (.pv (.bool true))) (.t 36), none, 63⟩,
      ⟨(some 38), .mv (.t 37), none, 127⟩,
      ⟨(some 39), .faddr (.t 3) 3, (some (38, false)), 255⟩,
      ⟨(some 40), .load false 1 (.t 39), (some (38, false)), 511⟩,
      ⟨(some 41), .mv (.t 6), (some (38, false)), 255⟩,
      ⟨(some 42), .slice 7 (.t 40) none (some (.t 41)) none, (some (38, false)), 2047⟩,
      ⟨(some 43), .load true 7 (.t 7), (some (38, false)), 255⟩,
      ⟨(some 44), .call (.f 45) [.t 42, .t 43], (some (38, false)), 8191⟩,
      ⟨(some 45), .pick (.t 38) (.c (.pv (.bool true))) (.t 44), none, 16383⟩] true)
    (.cond (.t 45)
     (.seq (.reg [⟨none, .store 1 (.t 4) (.c (.pv (.bool false))), none, 0⟩] false)
     (.ret))
     (.skip))))))
   (.reg [⟨(some 46), .bin .add (.t 21) (.c (.pv (.int .i64 (1)))), none, 0⟩,
     ⟨(some 21), .mv (.t 46), none, 1⟩] false)))))))
 (.seq (.reg [⟨none, .store 1 (.t 4) (.c (.pv (.bool true))), none, 0⟩] false)
 (.ret))))⟩
def c27 : RFn := ⟨3, 45, [.cell 6 true 7, .tmp 7, .tmp 8],
 .seq (.reg [⟨(some 4), .box 7 (.t 1), none, 0⟩,
   ⟨(some 5), .box 7 (.t 2), none, 0⟩,
   ⟨(some 6), .alloc [.pv (.int .i64 (0)), .pv (.bool false), .pv (.int .i64 (0)), .pv (.str []), .pv (.int .i64 (0)), .pv (.int .i64 (0)), .pv (.int .i64 (0))], none, 0⟩,
   ⟨(some 7), .mv (.c (.pv (.bool false))), none, 0⟩,
   ⟨(some 8), .mv (.c (.pv (.int .i64 (0)))), none, 8⟩] false)
 (.seq (.reg [⟨(some 14), .mv (.t 0), none, 0⟩,
   ⟨(some 15), .load true 7 (.t 4), none, 0⟩,
   ⟨(some 16), .bsl 1 1 [.pv (.int .i64 (0))] [(0, .c (.pv (.int .i64 (9))))], none, 0⟩,
   ⟨(some 17), .call (.f 30) [.t 14, .t 15, .t 16], none, 7⟩,
   ⟨(some 13), .mv (.t 17), none, 15⟩,
   ⟨(some 18), .extract (.t 13) 0, none, 31⟩,
   ⟨(some 19), .extract (.t 13) 1, none, 31⟩,
   ⟨(some 9), .alloc [.emp 7, .pv (.int .i64 (0)), .pv (.bool false), .pv (.int .i64 (0)), .pv (.str []), .pv (.int .i64 (0)), .pv (.int .i64 (0)), .pv (.int .i64 (0))], none, 0⟩,
   ⟨none, .store 8 (.t 9) (.t 18), none, 191⟩,
   ⟨(some 10), .mv (.t 19), none, 511⟩] false)
 (.seq (.seq (.reg [⟨(some 20), .mv (.t 10), none, 0⟩,
   ⟨(some 21), .bin .neq (.t 20) (.c (.pv (.int .i64 (0)))), none, 1⟩] false)
 (.cond (.t 21)
  (.seq (.reg [⟨(some 22), .build [.pv (.int .i64 (0)), .pv (.bool false), .pv (.int .i64 (0)), .pv (.str []), .pv (.int .i64 (0)), .pv (.int .i64 (0)), .pv (.int .i64 (0))] [], none, 0⟩,
    ⟨(some 23), .mv (.t 10), none, 0⟩,
    ⟨none, .store 7 (.t 6) (.t 22), none, 1⟩,
    ⟨(some 7), .mv (.c (.pv (.bool false))), none, 5⟩,
    ⟨(some 8), .mv (.t 23), none, 15⟩] false)
  (.ret))
  (.skip)))
 (.seq (.reg [⟨(some 24), .load true 8 (.t 9), none, 0⟩,
   ⟨(some 25), .call (.f 31) [.t 24], none, 1⟩,
   ⟨(some 11), .alloc [.pv (.int .i64 (0)), .pv (.str []), .emp 7, .emp 7, .emp 7, .pv (.int .i64 (0)), .pv (.int .i64 (0))], none, 0⟩,
   ⟨none, .store 7 (.t 11) (.t 25), none, 7⟩] false)
 (.seq (.reg [⟨(some 26), .faddr (.t 11) 3, none, 0⟩,
   ⟨(some 27), .load false 1 (.t 26), none, 1⟩,
   ⟨(some 28), .load true 7 (.t 5), none, 0⟩,
   ⟨(some 29), .call (.f 46) [.t 27, .t 28], none, 7⟩,
   ⟨(some 12), .mv (.t 29), none, 15⟩] false)
 (.seq (.seq (.reg [⟨(some 30), .mv (.t 12), none, 0⟩,
   ⟨(some 31), .bin .lss (.t 30) (.c (.pv (.int .i64 (0)))), none, 1⟩,
   ⟨(some 32), .mv (.t 31), none, 3⟩,
   ⟨(some 33), .mv (.t 12), (some (32, false)), 7⟩,
   ⟨(some 34), .faddr (.t 11) 4, (some (32, false)), 7⟩,
   ⟨(some 35), .load false 1 (.t 34), (some (32, false)), 23⟩,
   ⟨(some 36), .slen (.t 35), (some (32, false)), 55⟩,
   ⟨(some 37), .bin .geq (.t 33) (.t 36), (some (32, false)), 127⟩,
   ⟨(some 38), .pick (.t 32) (.c (.pv (.bool true))) (.t 37), none, 255⟩] false)
 (.cond (.t 38)
  (.seq (.reg [⟨(some 39), .build [.pv (.int .i64 (0)), .pv (.bool false), .pv (.int .i64 (0)), .pv (.str []), .pv (.int .i64 (0)), .pv (.int .i64 (0)), .pv (.int .i64 (0))] [], none, 0⟩,
    ⟨none, .store 7 (.t 6) (.t 39), none, 1⟩,
    ⟨(some 7), .mv (.c (.pv (.bool false))), none, 3⟩,
    ⟨(some 8), .mv (.c (.pv (.int .i64 (0)))), none, 7⟩] false)
  (.ret))
  (.skip)))
 (.seq (.reg [⟨(some 40), .faddr (.t 11) 4, none, 0⟩,
   ⟨(some 41), .load false 1 (.t 40), none, 1⟩,
   ⟨(some 42), .mv (.t 12), none, 0⟩,
   ⟨(some 43), .iaddr 7 (.t 41) (.t 42), none, 7⟩,
   ⟨(some 44), .load true 7 (.t 43), none, 15⟩,
   ⟨none, .store 7 (.t 6) (.t 44), none, 31⟩,
   ⟨(some 7), .mv (.c (.pv (.bool true))), none, 63⟩,
   ⟨(some 8), .mv (.c (.pv (.int .i64 (0)))), none, 127⟩] false)
 (.ret)))))))⟩
def c28 : RFn := ⟨1, 5, [.cell 2 true 7],
 .seq (.reg [⟨(some 2), .alloc [.pv (.int .i64 (0)), .pv (.bool false), .pv (.int .i64 (0)), .pv (.str []), .pv (.int .i64 (0)), .pv (.int .i64 (0)), .pv (.int .i64 (0))], none, 0⟩] false)
 (.seq (.reg [⟨(some 3), .mv (.t 0), none, 0⟩,
   ⟨(some 4), .build [.pv (.int .i64 (0)), .pv (.bool false), .pv (.int .i64 (0)), .pv (.str []), .pv (.int .i64 (0)), .pv (.int .i64 (0)), .pv (.int .i64 (0))] [(0, 1, .c (.pv (.int .i64 (9)))), (4, 1, .t 3)], none, 1⟩,
   ⟨none, .store 7 (.t 2) (.t 4), none, 3⟩] false)
 (.ret))⟩
def c29 : RFn := ⟨1, 5, [.cell 2 true 7],
 .seq (.reg [⟨(some 2), .alloc [.pv (.int .i64 (0)), .pv (.bool false), .pv (.int .i64 (0)), .pv (.str []), .pv (.int .i64 (0)), .pv (.int .i64 (0)), .pv (.int .i64 (0))], none, 0⟩] false)
 (.seq (.reg [⟨(some 3), .mv (.t 0), none, 0⟩,
   ⟨(some 4), .build [.pv (.int .i64 (0)), .pv (.bool false), .pv (.int .i64 (0)), .pv (.str []), .pv (.int .i64 (0)), .pv (.int .i64 (0)), .pv (.int .i64 (0))] [(0, 1, .c (.pv (.int .i64 (5)))), (3, 1, .t 3)], none, 1⟩,
   ⟨none, .store 7 (.t 2) (.t 4), none, 3⟩] false)
 (.ret))⟩
def c30 : RFn := ⟨3, 23, [.cell 6 true 8, .tmp 7],
 .seq (.reg [⟨(some 4), .box 7 (.t 1), none, 0⟩,
   ⟨(some 6), .alloc [.emp 7, .pv (.int .i64 (0)), .pv (.bool false), .pv (.int .i64 (0)), .pv (.str []), .pv (.int .i64 (0)), .pv (.int .i64 (0)), .pv (.int .i64 (0))], none, 0⟩,
   ⟨(some 7), .mv (.c (.pv (.int .i64 (0)))), none, 0⟩] false)
 (.seq (.seq (.reg [⟨(some 8), .mv (.t 0), none, 0⟩,
   ⟨(some 9), .load true 7 (.t 4), none, 0⟩,
   ⟨(some 10), .call (.f 34) [.t 8, .t 9], none, 3⟩,
   ⟨(some 11), .not (.t 10), none, 7⟩] false)
 (.cond (.t 11)
  (.seq (.reg [⟨(some 12), .build [.emp 7, .pv (.int .i64 (0)), .pv (.bool false), .pv (.int .i64 (0)), .pv (.str []), .pv (.int .i64 (0)), .pv (.int .i64 (0)), .pv (.int .i64 (0))] [], none, 0⟩,
    ⟨none, .store 8 (.t 6) (.t 12), none, 1⟩,
    ⟨(some 7), .mv (.c (.pv (.int .i64 (2)))), none, 3⟩] false)
  (.ret))
  (.skip)))
 (.seq (.seq (.reg [⟨(some 13), .mv (.t 2), none, 0⟩,
   ⟨(some 14), .faddr (.t 4) 0, none, 0⟩,
   ⟨(some 15), .load false 1 (.t 14), none, 2⟩,
   ⟨(some 16), .call (.f 47) [.t 13, .t 15], none, 7⟩,
   ⟨(some 17), .not (.t 16), none, 15⟩] false)
 (.cond (.t 17)
  (.seq (.reg [⟨(some 18), .build [.emp 7, .pv (.int .i64 (0)), .pv (.bool false), .pv (.int .i64 (0)), .pv (.str []), .pv (.int .i64 (0)), .pv (.int .i64 (0)), .pv (.int .i64 (0))] [], none, 0⟩,
    ⟨none, .store 8 (.t 6) (.t 18), none, 1⟩,
    ⟨(some 7), .mv (.c (.pv (.int .i64 (22)))), none, 3⟩] false)
  (.ret))
  (.skip)))
 (.seq (.reg [⟨(some 19), .mv (.t 0), none, 0⟩,
   ⟨(some 20), .build [.emp 7] [(0, 1, .t 19)], none, 1⟩,
   ⟨(some 21), .load true 7 (.t 4), none, 0⟩,
   ⟨(some 22), .build [.emp 7, .pv (.int .i64 (0)), .pv (.bool false), .pv (.int .i64 (0)), .pv (.str []), .pv (.int .i64 (0)), .pv (.int .i64 (0)), .pv (.int .i64 (0))] [(0, 1, .t 20), (1, 7, .t 21)], none, 7⟩,
   ⟨none, .store 8 (.t 6) (.t 22), none, 15⟩,
   ⟨(some 7), .mv (.c (.pv (.int .i64 (0)))), none, 31⟩] false)
 (.ret))))⟩
def c31 : RFn := ⟨1, 11, [.cell 2 true 7],
 .seq (.reg [⟨(some 1), .box 8 (.t 0), none, 0⟩,
   ⟨(some 2), .alloc [.pv (.int .i64 (0)), .pv (.str []), .emp 7, .emp 7, .emp 7, .pv (.int .i64 (0)), .pv (.int .i64 (0))], none, 0⟩] false)
 (.seq (.reg [⟨(some 3), .faddr (.t 1) 0, none, 0⟩,
   ⟨(some 4), .faddr (.t 3) 0, none, 1⟩,
   ⟨(some 5), .load false 1 (.t 4), none, 3⟩,
   ⟨(some 6), .faddr (.t 1) 1, none, 0⟩,
   ⟨(some 7), .faddr (.t 6) 4, none, 8⟩,
   ⟨(some 8), .load false 1 (.t 7), none, 24⟩,
   ⟨(some 9), .iaddr 7 (.t 5) (.t 8), none, 63⟩,
   ⟨(some 10), .load true 7 (.t 9), none, 127⟩,
   ⟨none, .store 7 (.t 2) (.t 10), none, 255⟩] false)
 (.ret))⟩
def c32 : RFn := ⟨1, 80, [.cell 2 true 67, .tmp 3],
 .seq (.reg [⟨(some 1), .box 67 (.t 0), none, 0⟩,
   ⟨(some 2), .alloc [.emp 7, .emp 7, .emp 7, .emp 3, .pv (.int .i64 (0)), .pv (.int .i64 (0)), .pv (.int .i64 (0)), .pv (.int .i64 (0)), .pv (.int .i64 (0)), .pv (.int .i64 (0)), .pv (.int .i64 (0)), .emp 7, .pv (.int .i64 (0)), .pv (.int .i64 (0)), .pv (.int .i64 (0)), .pv (.int .i64 (0)), .pv (.int .i64 (0)), .pv (.int .i64 (0)), .pv (.int .i64 (0)), .pv (.int .i64 (0)), .pv (.int .i64 (0)), .pv (.int .i64 (0)), .pv (.int .i64 (0)), .pv (.int .i64 (0)), .pv (.int .i64 (0)), .pv (.int .i64 (0)), .pv (.int .i64 (0)), .pv (.int .i64 (0)), .pv (.int .i64 (0)), .pv (.int .i64 (0)), .pv (.int .i64 (0)), .pv (.int .i64 (0)), .pv (.bool false), .pv (.bool false), .emp 47, .pv (.int .i64 (0)), .pv (.int .i64 (0)), .pv (.int .i64 (0)), .pv (.int .i64 (0)), .pv (.int .i64 (0)), .pv (.int .i64 (0)), .pv (.int .i64 (0)), .pv (.int .i64 (0)), .emp 1, .pv (.int .i64 (0)), .pv (.int .i64 (0)), .emp 2, .pv (.int .i64 (0)), .pv (.bool false), .pv (.int .i64 (0)), .pv (.str []), .pv (.int .i64 (0)), .pv (.int .i64 (0)), .pv (.int .i64 (0)), .pv (.int .i64 (0)), .pv (.int .i64 (0)), .pv (.int .i64 (0)), .pv (.int .i64 (0)), .pv (.int .i64 (0)), .pv (.int .i64 (0)), .pv (.int .i64 (0)), .pv (.int .i64 (0)), .emp 57, .emp 47, .emp 3, .pv (.str []), .pv (.int .i64 (0))], none, 0⟩,
   ⟨(some 3), .mv (.c (.pv (.int .i64 (0)))), none, 0⟩] false)
 (.seq (.reg [⟨(some 14), .faddr (.t 1) 0, none, 0⟩,
   ⟨(some 15), .load true 67 (.t 14), none, 1⟩,
   ⟨(some 16), .call (.f 48) [.t 15, .c (.pv (.int .i64 (2)))], none, 3⟩,
   ⟨(some 13), .mv (.t 16), none, 7⟩,
   ⟨(some 17), .extract (.t 13) 0, none, 15⟩,
   ⟨(some 18), .extract (.t 13) 1, none, 15⟩,
   ⟨(some 4), .mv (.t 17), none, 31⟩,
   ⟨(some 5), .mv (.t 18), none, 127⟩] false)
 (.seq (.seq (.reg [⟨(some 19), .mv (.t 5), none, 0⟩,
   ⟨(some 20), .bin .neq (.t 19) (.c (.pv (.int .i64 (0)))), none, 1⟩] false)
 (.cond (.t 20)
  (.seq (.reg [⟨(some 21), .faddr (.t 1) 0, none, 0⟩,
    ⟨(some 22), .load true 67 (.t 21), none, 1⟩,
    ⟨(some 23), .mv (.t 5), none, 0⟩,
    ⟨none, .store 67 (.t 2) (.t 22), none, 3⟩,
    ⟨(some 3), .mv (.t 23), none, 15⟩] false)
  (.ret))
  (.skip)))
 (.seq (.seq (.reg [⟨(some 24), .mv (.t 4), none, 0⟩,
   ⟨(some 25), .iaddr 7 (.t 24) (.c (.pv (.int .i64 (1)))), none, 1⟩,
   ⟨(some 26), .faddr (.t 25) 0, none, 3⟩,
   ⟨(some 27), .load false 1 (.t 26), none, 7⟩,
   ⟨(some 28), .bin .neq (.t 27) (.c (.pv (.int .i64 (5)))), none, 15⟩] false)
 (.cond (.t 28)
  (.seq (.reg [⟨(some 29), .faddr (.t 1) 0, none, 0⟩,
    ⟨(some 30), .load true 67 (.t 29), none, 1⟩,
    ⟨none, .store 67 (.t 2) (.t 30), none, 3⟩,
    ⟨(some 3), .mv (.c (.pv (.int .i64 (22)))), none, 7⟩] false)
  (.ret))
  (.skip)))
 (.seq (.reg [⟨(some 32), .faddr (.t 1) 0, none, 0⟩,
   ⟨(some 33), .load true 67 (.t 32), none, 1⟩,
   ⟨(some 34), .call (.f 49) [.t 33, .c (.pv (.int .i64 (2)))], none, 3⟩,
   ⟨(some 31), .mv (.t 34), none, 7⟩,
   ⟨(some 35), .extract (.t 31) 0, none, 15⟩,
   ⟨(some 36), .extract (.t 31) 1, none, 15⟩,
   ⟨(some 6), .alloc [.emp 7, .emp 7, .emp 7, .emp 3, .pv (.int .i64 (0)), .pv (.int .i64 (0)), .pv (.int .i64 (0)), .pv (.int .i64 (0)), .pv (.int .i64 (0)), .pv (.int .i64 (0)), .pv (.int .i64 (0)), .emp 7, .pv (.int .i64 (0)), .pv (.int .i64 (0)), .pv (.int .i64 (0)), .pv (.int .i64 (0)), .pv (.int .i64 (0)), .pv (.int .i64 (0)), .pv (.int .i64 (0)), .pv (.int .i64 (0)), .pv (.int .i64 (0)), .pv (.int .i64 (0)), .pv (.int .i64 (0)), .pv (.int .i64 (0)), .pv (.int .i64 (0)), .pv (.int .i64 (0)), .pv (.int .i64 (0)), .pv (.int .i64 (0)), .pv (.int .i64 (0)), .pv (.int .i64 (0)), .pv (.int .i64 (0)), .pv (.int .i64 (0)), .pv (.bool false), .pv (.bool false), .emp 47, .pv (.int .i64 (0)), .pv (.int .i64 (0)), .pv (.int .i64 (0)), .pv (.int .i64 (0)), .pv (.int .i64 (0)), .pv (.int .i64 (0)), .pv (.int .i64 (0)), .pv (.int .i64 (0)), .emp 1, .pv (.int .i64 (0)), .pv (.int .i64 (0)), .emp 2, .pv (.int .i64 (0)), .pv (.bool false), .pv (.int .i64 (0)), .pv (.str []), .pv (.int .i64 (0)), .pv (.int .i64 (0)), .pv (.int .i64 (0)), .pv (.int .i64 (0)), .pv (.int .i64 (0)), .pv (.int .i64 (0)), .pv (.int .i64 (0)), .pv (.int .i64 (0)), .pv (.int .i64 (0)), .pv (.int .i64 (0)), .pv (.int .i64 (0)), .emp 57, .emp 47, .emp 3, .pv (.str []), .pv (.int .i64 (0))], none, 0⟩,
   ⟨none, .store 67 (.t 6) (.t 35), none, 95⟩,
   ⟨(some 5), .mv (.t 36), none, 255⟩] false)
 (.seq (.seq (.reg [⟨(some 37), .mv (.t 5), none, 0⟩,
   ⟨(some 38), .bin .neq (.t 37) (.c (.pv (.int .i64 (0)))), none, 1⟩] false)
 (.cond (.t 38)
  (.seq (.reg [⟨(some 39), .faddr (.t 1) 0, none, 0⟩,
    ⟨(some 40), .load true 67 (.t 39), none, 1⟩,
    ⟨(some 41), .mv (.t 5), none, 0⟩,
    ⟨none, .store 67 (.t 2) (.t 40), none, 3⟩,
    ⟨(some 3), .mv (.t 41), none, 15⟩] false)
  (.ret))
  (.skip)))
 (.seq (.reg [⟨(some 42), .mv (.t 4), none, 0⟩,
   ⟨(some 43), .iaddr 7 (.t 42) (.c (.pv (.int .i64 (1)))), none, 1⟩,
   ⟨(some 44), .load true 7 (.t 43), none, 3⟩,
   ⟨(some 7), .alloc [.pv (.int .i64 (0)), .pv (.bool false), .pv (.int .i64 (0)), .pv (.str []), .pv (.int .i64 (0)), .pv (.int .i64 (0)), .pv (.int .i64 (0))], none, 0⟩,
   ⟨none, .store 7 (.t 7) (.t 44), none, 15⟩] false)
 (.seq (.reg [⟨(some 45), .faddr (.t 7) 1, none, 0⟩,
   ⟨none, .store 1 (.t 45) (.c (.pv (.bool false))), none, 1⟩] false)
 (.seq (.reg [⟨(some 46), .build [.pv (.int .i64 (0)), .pv (.bool false), .pv (.int .i64 (0)), .pv (.str []), .pv (.int .i64 (0)), .pv (.int .i64 (0)), .pv (.int .i64 (0))] [], none, 0⟩,
   ⟨(some 8), .alloc [.pv (.int .i64 (0)), .pv (.bool false), .pv (.int .i64 (0)), .pv (.str []), .pv (.int .i64 (0)), .pv (.int .i64 (0)), .pv (.int .i64 (0))], none, 0⟩,
   ⟨none, .store 7 (.t 8) (.t 46), none, 3⟩] false)
 (.seq (.seq (.reg [⟨(some 48), .faddr (.t 6) 2, none, 0⟩,
   ⟨(some 49), .load false 1 (.t 48), none, 1⟩,
   ⟨(some 50), .faddr (.t 6) 0, none, 0⟩,
   ⟨(some 51), .load false 1 (.t 50), none, 4⟩,
   ⟨(some 52), .call (.f 35) [.t 49, .c (.pv (.bool false)), .t 51], none, 15⟩,
   ⟨(some 47), .mv (.t 52), none, 31⟩,
   ⟨(some 53), .extract (.t 47) 0, none, 63⟩,
   ⟨(some 54), .extract (.t 47) 1, none, 63⟩,
   ⟨(some 55), .extract (.t 47) 2, none, 63⟩,
   ⟨(some 10), .alloc [.pv (.int .i64 (0)), .pv (.bool false), .pv (.int .i64 (0)), .pv (.str []), .pv (.int .i64 (0)), .pv (.int .i64 (0)), .pv (.int .i64 (0))], none, 0⟩,
   ⟨(some 9), .mv (.t 53), none, 639⟩,
   ⟨none, .store 7 (.t 10) (.t 54), none, 1791⟩,
   ⟨(some 11), .mv (.t 55), none, 4095⟩] false)
 (.seq (.reg [⟨(some 56), .mv (.t 11), none, 0⟩,
   ⟨(some 57), .bin .eql (.t 56) (.c (.pv (.int .i64 (0)))), none, 1⟩] false)
 (.cond (.t 57)
  (.reg [⟨(some 58), .mv (.t 9), none, 0⟩,
    ⟨(some 59), .load true 7 (.t 10), none, 0⟩,
    ⟨(some 60), .faddr (.t 6) 2, none, 1⟩,
    ⟨none, .store 1 (.t 60) (.t 58), none, 5⟩,
    ⟨none, .store 7 (.t 8) (.t 59), none, 15⟩] true)
  (.skip))))
 (.seq (.reg [⟨(some 61), .load true 67 (.t 1), none, 0⟩,
   ⟨(some 62), .mkf (.func 50) [.t 61] [], none, 1⟩,
   ⟨(some 12), .mv (.t 62), none, 3⟩] false)
 (.seq (.reg [⟨(some 63), .mv (.t 12), none, 0⟩,
   ⟨(some 64), .faddr (.t 6) 2, none, 0⟩,
   ⟨(some 65), .load false 1 (.t 64), none, 2⟩,
   ⟨(some 66), .call (.f 38) [.c (.pv (.bool true))], none, 0⟩,
   ⟨(some 67), .build [.pv (.str []), .pv (.int .i64 (0)), .pv (.bool false), .pv (.int .i64 (0)), .pv (.str []), .pv (.int .i64 (0)), .pv (.int .i64 (0)), .pv (.int .i64 (0))] [(0, 1, .c (.pv (.str [110, 101, 119, 101, 114, 114, 111, 114]))), (1, 7, .t 66)], none, 8⟩,
   ⟨(some 68), .load true 7 (.t 7), none, 0⟩,
   ⟨(some 69), .build [.pv (.str []), .pv (.int .i64 (0)), .pv (.bool false), .pv (.int .i64 (0)), .pv (.str []), .pv (.int .i64 (0)), .pv (.int .i64 (0)), .pv (.int .i64 (0))] [(0, 1, .c (.pv (.str [101, 114, 114, 111, 114, 110, 97, 109, 101]))), (1, 7, .t 68)], none, 32⟩,
   ⟨(some 70), .mv (.t 4), none, 0⟩,
   ⟨(some 71), .iaddr 7 (.t 70) (.c (.pv (.int .i64 (0)))), none, 128⟩,
   ⟨(some 72), .load true 7 (.t 71), none, 384⟩,
   ⟨(some 73), .build [.pv (.str []), .pv (.int .i64 (0)), .pv (.bool false), .pv (.int .i64 (0)), .pv (.str []), .pv (.int .i64 (0)), .pv (.int .i64 (0)), .pv (.int .i64 (0))] [(0, 1, .c (.pv (.str [99, 111, 109, 109, 97, 110, 100]))), (1, 7, .t 72)], none, 896⟩,
   ⟨(some 74), .load true 7 (.t 8), none, 0⟩,
   ⟨(some 75), .build [.pv (.str []), .pv (.int .i64 (0)), .pv (.bool false), .pv (.int .i64 (0)), .pv (.str []), .pv (.int .i64 (0)), .pv (.int .i64 (0)), .pv (.int .i64 (0))] [(0, 1, .c (.pv (.str [111, 115, 116, 97, 99, 107]))), (1, 7, .t 74)], none, 2048⟩,
   ⟨(some 76), .bsl 8 4 [.pv (.str []), .pv (.int .i64 (0)), .pv (.bool false), .pv (.int .i64 (0)), .pv (.str []), .pv (.int .i64 (0)), .pv (.int .i64 (0)), .pv (.int .i64 (0))] [(0, .t 67), (1, .t 69), (2, .t 73), (3, .t 75)], none, 8184⟩,
   ⟨(some 77), .call (.t 63) [.t 65, .t 76], none, 16383⟩,
   ⟨(some 78), .faddr (.t 6) 2, none, 32767⟩,
   ⟨none, .store 1 (.t 78) (.t 77), none, 65535⟩] true)
 (.seq (.reg [⟨(some 79), .load true 67 (.t 6), none, 0⟩,
   ⟨none, .store 67 (.t 2) (.t 79), none, 1⟩,
   ⟨(some 3), .mv (.c (.pv (.int .i64 (0)))), none, 3⟩] false)
 (.ret)))))))))))))⟩
def c33 : RFn := ⟨1, 72, [.cell 2 true 67, .tmp 3],
 .seq (.reg [⟨(some 1), .box 67 (.t 0), none, 0⟩,
   ⟨(some 2), .alloc [.emp 7, .emp 7, .emp 7, .emp 3, .pv (.int .i64 (0)), .pv (.int .i64 (0)), .pv (.int .i64 (0)), .pv (.int .i64 (0)), .pv (.int .i64 (0)), .pv (.int .i64 (0)), .pv (.int .i64 (0)), .emp 7, .pv (.int .i64 (0)), .pv (.int .i64 (0)), .pv (.int .i64 (0)), .pv (.int .i64 (0)), .pv (.int .i64 (0)), .pv (.int .i64 (0)), .pv (.int .i64 (0)), .pv (.int .i64 (0)), .pv (.int .i64 (0)), .pv (.int .i64 (0)), .pv (.int .i64 (0)), .pv (.int .i64 (0)), .pv (.int .i64 (0)), .pv (.int .i64 (0)), .pv (.int .i64 (0)), .pv (.int .i64 (0)), .pv (.int .i64 (0)), .pv (.int .i64 (0)), .pv (.int .i64 (0)), .pv (.int .i64 (0)), .pv (.bool false), .pv (.bool false), .emp 47, .pv (.int .i64 (0)), .pv (.int .i64 (0)), .pv (.int .i64 (0)), .pv (.int .i64 (0)), .pv (.int .i64 (0)), .pv (.int .i64 (0)), .pv (.int .i64 (0)), .pv (.int .i64 (0)), .emp 1, .pv (.int .i64 (0)), .pv (.int .i64 (0)), .emp 2, .pv (.int .i64 (0)), .pv (.bool false), .pv (.int .i64 (0)), .pv (.str []), .pv (.int .i64 (0)), .pv (.int .i64 (0)), .pv (.int .i64 (0)), .pv (.int .i64 (0)), .pv (.int .i64 (0)), .pv (.int .i64 (0)), .pv (.int .i64 (0)), .pv (.int .i64 (0)), .pv (.int .i64 (0)), .pv (.int .i64 (0)), .pv (.int .i64 (0)), .emp 57, .emp 47, .emp 3, .pv (.str []), .pv (.int .i64 (0))], none, 0⟩,
   ⟨(some 3), .mv (.c (.pv (.int .i64 (0)))), none, 0⟩] false)
 (.scope
  (.seq (.reg [⟨(some 13), .faddr (.t 1) 0, none, 0⟩,
    ⟨(some 14), .faddr (.t 13) 2, none, 1⟩,
    ⟨(some 15), .load false 1 (.t 14), none, 3⟩,
    ⟨(some 16), .call (.f 28) [.c (.pv (.int .i64 (3)))], none, 0⟩,
    ⟨(some 17), .call (.f 29) [.c (.pv (.str [110, 101, 119, 101, 114, 114, 111, 114]))], none, 8⟩,
    ⟨(some 18), .call (.f 27) [.t 15, .t 16, .t 17], none, 31⟩,
    ⟨(some 12), .mv (.t 18), none, 63⟩,
    ⟨(some 19), .extract (.t 12) 0, none, 127⟩,
    ⟨(some 20), .extract (.t 12) 1, none, 127⟩,
    ⟨(some 21), .extract (.t 12) 2, none, 127⟩,
    ⟨(some 4), .alloc [.pv (.int .i64 (0)), .pv (.bool false), .pv (.int .i64 (0)), .pv (.str []), .pv (.int .i64 (0)), .pv (.int .i64 (0)), .pv (.int .i64 (0))], none, 0⟩,
    ⟨none, .store 7 (.t 4) (.t 19), none, 1279⟩,
    ⟨(some 5), .mv (.t 20), none, 3583⟩,
    ⟨(some 6), .mv (.t 21), none, 8191⟩] true)
  (.seq (.reg [⟨(some 22), .call (.f 38) [.c (.pv (.bool true))], none, 0⟩,
    ⟨(some 7), .alloc [.pv (.int .i64 (0)), .pv (.bool false), .pv (.int .i64 (0)), .pv (.str []), .pv (.int .i64 (0)), .pv (.int .i64 (0)), .pv (.int .i64 (0))], none, 0⟩,
    ⟨none, .store 7 (.t 7) (.t 22), none, 3⟩] false)
  (.seq (.reg [⟨(some 23), .faddr (.t 4) 1, none, 0⟩,
    ⟨(some 24), .load false 1 (.t 23), none, 1⟩,
    ⟨(some 25), .faddr (.t 7) 1, none, 3⟩,
    ⟨none, .store 1 (.t 25) (.t 24), none, 7⟩] false)
  (.seq (.seq (.reg [⟨(some 26), .mv (.t 5), none, 0⟩,
    ⟨(some 27), .not (.t 26), none, 1⟩,
    ⟨(some 28), .mv (.t 27), none, 3⟩,
    ⟨(some 29), .load true 7 (.t 4), (some (28, false)), 7⟩,
    ⟨(some 30), .load true 7 (.t 7), (some (28, false)), 7⟩,
    ⟨(some 31), .eqs true [0, 1, 0, 2, 0, 0, 0] (.t 29) (.t 30), (some (28, false)), 31⟩,
    ⟨(some 32), .pick (.t 28) (.c (.pv (.bool true))) (.t 31), none, 63⟩] false)
  (.cond (.t 32)
   (.seq (.reg [⟨(some 33), .faddr (.t 1) 0, none, 0⟩,
     ⟨(some 34), .load true 67 (.t 33), none, 1⟩,
     ⟨none, .store 67 (.t 2) (.t 34), none, 3⟩,
     ⟨(some 3), .mv (.c (.pv (.int .i64 (0)))), none, 7⟩] false)
   (.ret))
   (.skip)))
  (.seq (.reg [⟨(some 35), .faddr (.t 1) 0, none, 0⟩,
    ⟨(some 36), .faddr (.t 35) 65, none, 1⟩,
    ⟨(some 37), .load false 1 (.t 36), none, 3⟩,
    ⟨(some 8), .mv (.t 37), none, 7⟩] false)
  (.seq (.skip)
  (.seq (.seq (.reg [⟨(some 38), .load true 67 (.t 1), none, 0⟩,
    ⟨(some 39), .call (.f 51) [.t 38, .c (.pv (.str [101, 114, 114, 111, 114, 110, 97, 109, 101]))], none, 1⟩,
    ⟨(some 40), .load true 67 (.t 1), none, 0⟩,
    ⟨(some 41), .call (.f 51) [.t 40, .c (.pv (.str [99, 111, 109, 109, 97, 110, 100]))], none, 7⟩,
    ⟨(some 42), .build [.pv (.str []), .pv (.str []), .pv (.str []), .pv (.str []), .pv (.str [])] [(0, 1, .c (.pv (.str [37, 37, 91, 32, 69, 114, 114, 111, 114, 58, 32]))), (1, 1, .t 39), (2, 1, .c (.pv (.str [59, 32, 79, 102, 102, 101, 110, 100, 105, 110, 103, 67, 111, 109, 109, 97, 110, 100, 58, 32]))), (3, 1, .t 41), (4, 1, .c (.pv (.str [32, 93, 37, 37, 10])))], none, 15⟩,
    ⟨(some 43), .mv (.c (.pv (.int .i64 (0)))), none, 0⟩] true)
  (.block 0
   (.loop [1, 2, 8, 42, 43]
    (.seq (.reg [⟨(some 44), .bin .lss (.t 43) (.c (.pv (.int .i64 (5)))), none, 0⟩] false)
    (.seq (.cond (.t 44)
     (.skip)
     (.exit 0))
    (.seq (.block 1
     (.seq (.reg [⟨(some 45), .index false 5 1 (.t 42) (.t 43), none, 0⟩,
       ⟨(some 10), .mv (.t 45), none, 1⟩] false)
     (.seq (.reg [⟨(some 46), .mv (.t 8), none, 0⟩,
       ⟨(some 47), .mv (.t 10), none, 0⟩,
       ⟨(some 48), .bin .add (.t 46) (.t 47), none, 3⟩,
       ⟨(some 8), .mv (.t 48), none, 7⟩] false)
     (.seq (.reg [⟨(some 49), .mv (.t 8), none, 0⟩,
       ⟨(some 50), .strlen (.t 49), none, 1⟩,
       ⟨(some 51), .bin .gtr (.t 50) (.c (.pv (.int .i64 (2000)))), none, 3⟩] false)
     (.cond (.t 51)
      (.exit 0)
      (.skip))))))
    (.reg [⟨(some 52), .bin .add (.t 43) (.c (.pv (.int .i64 (1)))), none, 0⟩,
      ⟨(some 43), .mv (.t 52), none, 1⟩] false)))))))
  (.seq (.seq (.reg [⟨(some 53), .mv (.t 8), none, 0⟩,
    ⟨(some 54), .strlen (.t 53), none, 1⟩,
    ⟨(some 55), .bin .gtr (.t 54) (.c (.pv (.int .i64 (2000)))), none, 3⟩] false)
  (.cond (.t 55)
   (.seq (.reg [⟨(some 56), .faddr (.t 1) 0, none, 0⟩,
     ⟨(some 57), .load true 67 (.t 56), none, 1⟩,
     ⟨none, .store 67 (.t 2) (.t 57), none, 3⟩,
     ⟨(some 3), .mv (.c (.pv (.int .i64 (26)))), none, 7⟩] false)
   (.ret))
   (.skip)))
  (.seq (.reg [⟨(some 58), .faddr (.t 1) 0, none, 0⟩,
    ⟨(some 59), .load true 67 (.t 58), none, 1⟩,
    ⟨(some 11), .alloc [.emp 7, .emp 7, .emp 7, .emp 3, .pv (.int .i64 (0)), .pv (.int .i64 (0)), .pv (.int .i64 (0)), .pv (.int .i64 (0)), .pv (.int .i64 (0)), .pv (.int .i64 (0)), .pv (.int .i64 (0)), .emp 7, .pv (.int .i64 (0)), .pv (.int .i64 (0)), .pv (.int .i64 (0)), .pv (.int .i64 (0)), .pv (.int .i64 (0)), .pv (.int .i64 (0)), .pv (.int .i64 (0)), .pv (.int .i64 (0)), .pv (.int .i64 (0)), .pv (.int .i64 (0)), .pv (.int .i64 (0)), .pv (.int .i64 (0)), .pv (.int .i64 (0)), .pv (.int .i64 (0)), .pv (.int .i64 (0)), .pv (.int .i64 (0)), .pv (.int .i64 (0)), .pv (.int .i64 (0)), .pv (.int .i64 (0)), .pv (.int .i64 (0)), .pv (.bool false), .pv (.bool false), .emp 47, .pv (.int .i64 (0)), .pv (.int .i64 (0)), .pv (.int .i64 (0)), .pv (.int .i64 (0)), .pv (.int .i64 (0)), .pv (.int .i64 (0)), .pv (.int .i64 (0)), .pv (.int .i64 (0)), .emp 1, .pv (.int .i64 (0)), .pv (.int .i64 (0)), .emp 2, .pv (.int .i64 (0)), .pv (.bool false), .pv (.int .i64 (0)), .pv (.str []), .pv (.int .i64 (0)), .pv (.int .i64 (0)), .pv (.int .i64 (0)), .pv (.int .i64 (0)), .pv (.int .i64 (0)), .pv (.int .i64 (0)), .pv (.int .i64 (0)), .pv (.int .i64 (0)), .pv (.int .i64 (0)), .pv (.int .i64 (0)), .pv (.int .i64 (0)), .emp 57, .emp 47, .emp 3, .pv (.str []), .pv (.int .i64 (0))], none, 0⟩,
    ⟨none, .store 67 (.t 11) (.t 59), none, 7⟩] false)
  (.seq (.reg [⟨(some 60), .mv (.t 8), none, 0⟩,
    ⟨(some 61), .load true 67 (.t 1), none, 0⟩,
    ⟨(some 62), .faddr (.t 1) 0, none, 0⟩,
    ⟨(some 63), .faddr (.t 62) 2, none, 4⟩,
    ⟨(some 64), .load false 1 (.t 63), none, 12⟩,
    ⟨(some 65), .call (.f 38) [.c (.pv (.bool false))], none, 0⟩,
    ⟨(some 66), .build [.pv (.str []), .pv (.int .i64 (0)), .pv (.bool false), .pv (.int .i64 (0)), .pv (.str []), .pv (.int .i64 (0)), .pv (.int .i64 (0)), .pv (.int .i64 (0))] [(0, 1, .c (.pv (.str [110, 101, 119, 101, 114, 114, 111, 114]))), (1, 7, .t 65)], none, 32⟩,
    ⟨(some 67), .bsl 8 1 [.pv (.str []), .pv (.int .i64 (0)), .pv (.bool false), .pv (.int .i64 (0)), .pv (.str []), .pv (.int .i64 (0)), .pv (.int .i64 (0)), .pv (.int .i64 (0))] [(0, .t 66)], none, 96⟩,
    ⟨(some 68), .call (.f 50) [.t 61, .t 64, .t 67], none, 254⟩,
    ⟨(some 69), .faddr (.t 11) 65, none, 1⟩,
    ⟨none, .store 1 (.t 69) (.t 60), none, 1023⟩,
    ⟨(some 70), .faddr (.t 11) 2, none, 2047⟩,
    ⟨none, .store 1 (.t 70) (.t 68), none, 4095⟩] true)
  (.seq (.reg [⟨(some 71), .load true 67 (.t 11), none, 0⟩,
    ⟨none, .store 67 (.t 2) (.t 71), none, 1⟩,
    ⟨(some 3), .mv (.c (.pv (.int .i64 (0)))), none, 3⟩] false)
  (.ret)))))))))))))⟩
def c34 : RFn := ⟨2, 51, [.tmp 4],
 .seq (.reg [⟨(some 3), .box 7 (.t 1), none, 0⟩,
   ⟨(some 4), .mv (.c (.pv (.bool false))), none, 0⟩] false)
 (.seq (.seq (.reg [⟨(some 6), .load true 7 (.t 3), none, 0⟩,
   ⟨(some 7), .call (.f 52) [.t 6], none, 1⟩,
   ⟨(some 8), .bin .neq (.t 7) (.c (.pv (.int .i64 (0)))), none, 3⟩] false)
 (.cond (.t 8)
  (.seq (.reg [⟨(some 4), .mv (.c (.pv (.bool false))), none, 0⟩] false)
  (.ret))
  (.skip)))
 (.seq (.reg [⟨(some 9), .faddr (.t 3) 0, none, 0⟩,
   ⟨(some 10), .load false 1 (.t 9), none, 1⟩,
   ⟨(some 11), .call (.f 53) [.t 10], none, 3⟩,
   ⟨(some 5), .mv (.t 11), none, 7⟩] false)
 (.seq (.seq (.reg [⟨(some 12), .mv (.t 5), none, 0⟩,
   ⟨(some 13), .bin .eql (.t 12) (.c (.pv (.int .i64 (0)))), none, 1⟩] false)
 (.cond (.t 13)
  (.seq (.reg [⟨(some 4), .mv (.c (.pv (.bool true))), none, 0⟩] false)
  (.ret))
  (.skip)))
 (.seq (.seq (.reg [⟨(some 14), .faddr (.t 3) 4, none, 0⟩,
   ⟨(some 15), .load false 1 (.t 14), none, 1⟩,
   ⟨(some 16), .mv (.t 0), none, 0⟩,
   ⟨(some 17), .slen (.t 16), none, 4⟩,
   ⟨(some 18), .bin .geq (.t 15) (.t 17), none, 15⟩,
   ⟨(some 19), .mv (.t 18), none, 31⟩,
   ⟨(some 20), .mv (.t 0), (some (19, false)), 63⟩,
   ⟨(some 21), .faddr (.t 3) 4, (some (19, false)), 63⟩,
   ⟨(some 22), .load false 1 (.t 21), (some (19, false)), 191⟩,
   ⟨(some 23), .iaddr 7 (.t 20) (.t 22), (some (19, false)), 511⟩,
   ⟨(some 24), .faddr (.t 23) 0, (some (19, false)), 1023⟩,
   ⟨(some 25), .load false 1 (.t 24), (some (19, false)), 2047⟩,
   ⟨(some 26), .mv (.t 5), (some (19, false)), 63⟩,
   ⟨(some 27), .bin .neq (.t 25) (.t 26), (some (19, false)), 8191⟩,
   ⟨(some 28), .pick (.t 19) (.c (.pv (.bool true))) (.t 27), none, 16383⟩] false)
 (.cond (.t 28)
  (.seq (.reg [⟨(some 4), .mv (.c (.pv (.bool false))), none, 0⟩] false)
  (.ret))
  (.skip)))
 (.seq (.reg [⟨(some 29), .faddr (.t 3) 0, none, 0⟩,
   ⟨(some 30), .load false 1 (.t 29), none, 1⟩,
   ⟨(some 31), .bin .eql (.t 30) (.c (.pv (.int .i64 (9)))), none, 3⟩,
   ⟨(some 32), .mv (.t 31), none, 7⟩,
   ⟨(some 33), .faddr (.t 3) 0, (some (32, false)), 15⟩,
   ⟨(some 34), .load false 1 (.t 33), (some (32, false)), 31⟩,
   ⟨(some 35), .bin .eql (.t 34) (.c (.pv (.int .i64 (11)))), (some (32, false)), 63⟩,
   ⟨(some 36), .pick (.t 32) (.c (.pv (.bool true))) (.t 35), none, 127⟩,
   ⟨(some 37), .mv (.t 36), none, 255⟩,
   ⟨(some 38), .faddr (.t 3) 5, (some (37, false)), 511⟩,
   ⟨(some 39), .load false 1 (.t 38), (some (37, false)), 1023⟩,
   ⟨(some 40), .faddr (.t 3) 6, (some (37, false)), 511⟩,
   ⟨(some 41), .load false 1 (.t 40), (some (37, false)), 2559⟩,
   ⟨(some 42), .bin .add (.t 39) (.t 41), (some (37, false)), 8191⟩,
   ⟨(some 43), .mv (.t 0), (some (37, false)), 511⟩,
   ⟨(some 44), .faddr (.t 3) 4, (some (37, false)), 511⟩,
   ⟨(some 45), .load false 1 (.t 44), (some (37, false)), 33279⟩,
   ⟨(some 46), .iaddr 7 (.t 43) (.t 45), (some (37, false)), 115199⟩,
   ⟨(some 47), .load true 7 (.t 46), (some (37, false)), 246271⟩,
   ⟨(some 48), .call (.f 54) [.t 47], (some (37, false)), 508415⟩,
   ⟨(some 49), .bin .leq (.t 42) (.t 48), (some (37, false)), 1048575⟩,
   ⟨(some 50), .pick (.t 37) (.c (.pv (.bool true))) (.t 49), none, 2097151⟩,
   ⟨(some 4), .mv (.t 50), none, 4194303⟩] true)
 (.ret))))))⟩
def c35 : RFn := ⟨3, 37, [.tmp 6, .cell 7 true 7, .tmp 8],
 .seq (.reg [⟨(some 6), .mv (.c (.emp 7)), none, 0⟩,
   ⟨(some 7), .alloc [.pv (.int .i64 (0)), .pv (.bool false), .pv (.int .i64 (0)), .pv (.str []), .pv (.int .i64 (0)), .pv (.int .i64 (0)), .pv (.int .i64 (0))], none, 0⟩,
   ⟨(some 8), .mv (.c (.pv (.int .i64 (0)))), none, 1⟩] false)
 (.seq (.reg [⟨(some 13), .mv (.t 2), none, 0⟩,
   ⟨(some 14), .slen (.t 13), none, 1⟩,
   ⟨(some 15), .mksl 7 64 [.int .i64 (0), .bool false, .int .i64 (0), .str [], .int .i64 (0), .int .i64 (0), .int .i64 (0)] (.t 14), none, 3⟩,
   ⟨(some 9), .mv (.t 15), none, 7⟩] false)
 (.seq (.reg [⟨(some 16), .mv (.t 9), none, 0⟩,
   ⟨(some 17), .mv (.t 2), none, 0⟩,
   ⟨(some 18), .copy 7 (.t 16) (.t 17), none, 3⟩] false)
 (.seq (.reg [⟨(some 20), .mv (.t 0), none, 0⟩,
   ⟨(some 21), .mv (.t 9), none, 0⟩,
   ⟨(some 22), .build [.pv (.int .i64 (0)), .pv (.str []), .emp 7, .emp 7, .emp 7, .pv (.int .i64 (0)), .pv (.int .i64 (0))] [(0, 1, .c (.pv (.int .i64 (2)))), (2, 1, .t 21)], none, 2⟩,
   ⟨(some 23), .call (.f 55) [.t 20, .t 22], none, 7⟩,
   ⟨(some 19), .mv (.t 23), none, 15⟩,
   ⟨(some 24), .extract (.t 19) 0, none, 31⟩,
   ⟨(some 25), .extract (.t 19) 1, none, 31⟩,
   ⟨(some 26), .extract (.t 19) 2, none, 31⟩,
   ⟨(some 10), .mv (.t 24), none, 63⟩,
   ⟨(some 11), .mv (.t 25), none, 383⟩,
   ⟨(some 12), .mv (.t 26), none, 1023⟩] false)
 (.seq (.seq (.reg [⟨(some 27), .mv (.t 12), none, 0⟩,
   ⟨(some 28), .bin .neq (.t 27) (.c (.pv (.int .i64 (0)))), none, 1⟩] false)
 (.cond (.t 28)
  (.seq (.reg [⟨(some 29), .build [.pv (.int .i64 (0)), .pv (.bool false), .pv (.int .i64 (0)), .pv (.str []), .pv (.int .i64 (0)), .pv (.int .i64 (0)), .pv (.int .i64 (0))] [], none, 0⟩,
    ⟨(some 30), .mv (.t 12), none, 0⟩,
    ⟨(some 6), .mv (.c (.emp 7)), none, 0⟩,
    ⟨none, .store 7 (.t 7) (.t 29), none, 5⟩,
    ⟨(some 8), .mv (.t 30), none, 15⟩] false)
  (.ret))
  (.skip)))
 (.seq (.reg [⟨(some 31), .mv (.t 10), none, 0⟩,
   ⟨(some 32), .mv (.t 1), none, 0⟩,
   ⟨(some 33), .mv (.t 11), none, 0⟩,
   ⟨(some 34), .mv (.t 2), none, 0⟩,
   ⟨(some 35), .slen (.t 34), none, 8⟩,
   ⟨(some 36), .build [.pv (.int .i64 (0)), .pv (.bool false), .pv (.int .i64 (0)), .pv (.str []), .pv (.int .i64 (0)), .pv (.int .i64 (0)), .pv (.int .i64 (0))] [(0, 1, .c (.pv (.int .i64 (7)))), (1, 1, .t 32), (4, 1, .t 33), (6, 1, .t 35)], none, 30⟩,
   ⟨(some 6), .mv (.t 31), none, 1⟩,
   ⟨none, .store 7 (.t 7) (.t 36), none, 127⟩,
   ⟨(some 8), .mv (.c (.pv (.int .i64 (0)))), none, 255⟩] false)
 (.ret))))))⟩
def c36 : RFn := ⟨1, 5, [.cell 2 true 7],
 .seq (.reg [⟨(some 2), .alloc [.pv (.int .i64 (0)), .pv (.bool false), .pv (.int .i64 (0)), .pv (.str []), .pv (.int .i64 (0)), .pv (.int .i64 (0)), .pv (.int .i64 (0))], none, 0⟩] false)
 (.seq (.reg [⟨(some 3), .mv (.t 0), none, 0⟩,
   ⟨(some 4), .build [.pv (.int .i64 (0)), .pv (.bool false), .pv (.int .i64 (0)), .pv (.str []), .pv (.int .i64 (0)), .pv (.int .i64 (0)), .pv (.int .i64 (0))] [(0, 1, .c (.pv (.int .i64 (10)))), (1, 1, .c (.pv (.bool true))), (3, 1, .t 3)], none, 1⟩,
   ⟨none, .store 7 (.t 2) (.t 4), none, 3⟩] false)
 (.ret))⟩
def c37 : RFn := ⟨4, 84, [.tmp 8, .tmp 9],
 .seq (.reg [⟨(some 5), .box 7 (.t 1), none, 0⟩,
   ⟨(some 6), .box 7 (.t 2), none, 0⟩,
   ⟨(some 7), .box 7 (.t 3), none, 0⟩,
   ⟨(some 8), .mv (.c (.emp 7)), none, 0⟩,
   ⟨(some 9), .mv (.c (.pv (.int .i64 (0)))), none, 8⟩] false)
 (.seq (.reg [⟨(some 15), .mv (.t 0), none, 0⟩,
   ⟨(some 16), .load true 7 (.t 5), none, 0⟩,
   ⟨(some 17), .bsl 1 1 [.pv (.int .i64 (0))] [(0, .c (.pv (.int .i64 (9))))], none, 0⟩,
   ⟨(some 18), .call (.f 30) [.t 15, .t 16, .t 17], none, 7⟩,
   ⟨(some 14), .mv (.t 18), none, 15⟩,
   ⟨(some 19), .extract (.t 14) 0, none, 31⟩,
   ⟨(some 20), .extract (.t 14) 1, none, 31⟩,
   ⟨(some 10), .alloc [.emp 7, .pv (.int .i64 (0)), .pv (.bool false), .pv (.int .i64 (0)), .pv (.str []), .pv (.int .i64 (0)), .pv (.int .i64 (0)), .pv (.int .i64 (0))], none, 0⟩,
   ⟨none, .store 8 (.t 10) (.t 19), none, 191⟩,
   ⟨(some 11), .mv (.t 20), none, 511⟩] false)
 (.seq (.seq (.reg [⟨(some 21), .mv (.t 11), none, 0⟩,
   ⟨(some 22), .bin .neq (.t 21) (.c (.pv (.int .i64 (0)))), none, 1⟩] false)
 (.cond (.t 22)
  (.seq (.reg [⟨(some 23), .mv (.t 11), none, 0⟩,
    ⟨(some 8), .mv (.c (.emp 7)), none, 0⟩,
    ⟨(some 9), .mv (.t 23), none, 3⟩] false)
  (.ret))
  (.skip)))
 (.seq (.reg [⟨(some 24), .load true 8 (.t 10), none, 0⟩,
   ⟨(some 25), .call (.f 31) [.t 24], none, 1⟩,
   ⟨(some 12), .alloc [.pv (.int .i64 (0)), .pv (.str []), .emp 7, .emp 7, .emp 7, .pv (.int .i64 (0)), .pv (.int .i64 (0))], none, 0⟩,
   ⟨none, .store 7 (.t 12) (.t 25), none, 7⟩] false)
 (.seq (.seq (.reg [⟨(some 26), .faddr (.t 12) 3, none, 0⟩,
   ⟨(some 27), .load false 1 (.t 26), none, 1⟩,
   ⟨(some 28), .load true 7 (.t 6), none, 0⟩,
   ⟨(some 29), .call (.f 46) [.t 27, .t 28], none, 7⟩,
   ⟨(some 13), .mv (.t 29), none, 15⟩] false)
 (.seq (.reg [⟨(some 30), .mv (.t 13), none, 0⟩,
   ⟨(some 31), .bin .geq (.t 30) (.c (.pv (.int .i64 (0)))), none, 1⟩,
   ⟨(some 32), .mv (.t 31), none, 3⟩,
   ⟨(some 33), .mv (.t 13), (some (32, true)), 7⟩,
   ⟨(some 34), .faddr (.t 12) 4, (some (32, true)), 7⟩,
   ⟨(some 35), .load false 1 (.t 34), (some (32, true)), 23⟩,
   ⟨(some 36), .slen (.t 35), (some (32, true)), 55⟩,
   ⟨(some 37), .bin .lss (.t 33) (.t 36), (some (32, true)), 127⟩,
   ⟨(some 38), .pick (.t 32) (.t 37) (.c (.pv (.bool false))), none, 255⟩] false)
 (.cond (.t 38)
  (.seq (.reg [⟨(some 39), .faddr (.t 12) 4, none, 0⟩,
    ⟨(some 40), .load false 1 (.t 39), none, 1⟩,
    ⟨(some 41), .mv (.t 13), none, 0⟩,
    ⟨(some 42), .load true 7 (.t 7), none, 0⟩,
    ⟨(some 43), .bsl 7 1 [.pv (.int .i64 (0)), .pv (.bool false), .pv (.int .i64 (0)), .pv (.str []), .pv (.int .i64 (0)), .pv (.int .i64 (0)), .pv (.int .i64 (0))] [(0, .t 42)], none, 8⟩,
    ⟨(some 44), .call (.f 56) [.t 40, .t 41, .t 43], none, 31⟩,
    ⟨(some 45), .faddr (.t 12) 4, none, 63⟩,
    ⟨none, .store 1 (.t 45) (.t 44), none, 127⟩] false)
  (.seq (.reg [⟨(some 46), .load true 8 (.t 10), none, 0⟩,
    ⟨(some 47), .load true 7 (.t 12), none, 0⟩,
    ⟨(some 48), .call (.f 57) [.t 46, .t 47], none, 3⟩,
    ⟨(some 8), .mv (.t 48), none, 7⟩,
    ⟨(some 9), .mv (.c (.pv (.int .i64 (0)))), none, 15⟩] false)
  (.ret)))
  (.skip))))
 (.seq (.seq (.reg [⟨(some 49), .faddr (.t 12) 3, none, 0⟩,
   ⟨(some 50), .load false 1 (.t 49), none, 1⟩,
   ⟨(some 51), .slen (.t 50), none, 3⟩,
   ⟨(some 52), .faddr (.t 12) 5, none, 0⟩,
   ⟨(some 53), .load false 1 (.t 52), none, 8⟩,
   ⟨(some 54), .bin .geq (.t 51) (.t 53), none, 31⟩] false)
 (.cond (.t 54)
  (.seq (.reg [⟨(some 8), .mv (.c (.emp 7)), none, 0⟩,
    ⟨(some 9), .mv (.c (.pv (.int .i64 (30)))), none, 1⟩] false)
  (.ret))
  (.skip)))
 (.seq (.reg [⟨(some 55), .faddr (.t 12) 3, none, 0⟩,
   ⟨(some 56), .load false 1 (.t 55), none, 1⟩,
   ⟨(some 57), .faddr (.t 12) 3, none, 0⟩,
   ⟨(some 58), .load false 1 (.t 57), none, 4⟩,
   ⟨(some 59), .slen (.t 58), none, 12⟩,
   ⟨(some 60), .faddr (.t 12) 3, none, 0⟩,
   ⟨(some 61), .load false 1 (.t 60), none, 32⟩,
   ⟨(some 62), .slen (.t 61), none, 96⟩,
   ⟨(some 63), .slice 7 (.t 56) none (some (.t 59)) (some (.t 62)), none, 255⟩,
   ⟨(some 64), .load true 7 (.t 6), none, 0⟩,
   ⟨(some 65), .bsl 7 1 [.pv (.int .i64 (0)), .pv (.bool false), .pv (.int .i64 (0)), .pv (.str []), .pv (.int .i64 (0)), .pv (.int .i64 (0)), .pv (.int .i64 (0))] [(0, .t 64)], none, 512⟩,
   ⟨(some 66), .append 7 64 (.t 63) (.t 65), none, 2047⟩,
   ⟨(some 67), .faddr (.t 12) 3, none, 4095⟩,
   ⟨none, .store 1 (.t 67) (.t 66), none, 8191⟩] true)
 (.seq (.reg [⟨(some 68), .faddr (.t 12) 4, none, 0⟩,
   ⟨(some 69), .load false 1 (.t 68), none, 1⟩,
   ⟨(some 70), .faddr (.t 12) 4, none, 0⟩,
   ⟨(some 71), .load false 1 (.t 70), none, 4⟩,
   ⟨(some 72), .slen (.t 71), none, 12⟩,
   ⟨(some 73), .faddr (.t 12) 4, none, 0⟩,
   ⟨(some 74), .load false 1 (.t 73), none, 32⟩,
   ⟨(some 75), .slen (.t 74), none, 96⟩,
   ⟨(some 76), .slice 7 (.t 69) none (some (.t 72)) (some (.t 75)), none, 255⟩,
   ⟨(some 77), .load true 7 (.t 7), none, 0⟩,
   ⟨(some 78), .bsl 7 1 [.pv (.int .i64 (0)), .pv (.bool false), .pv (.int .i64 (0)), .pv (.str []), .pv (.int .i64 (0)), .pv (.int .i64 (0)), .pv (.int .i64 (0))] [(0, .t 77)], none, 512⟩,
   ⟨(some 79), .append 7 64 (.t 76) (.t 78), none, 2047⟩,
   ⟨(some 80), .faddr (.t 12) 4, none, 4095⟩,
   ⟨none, .store 1 (.t 80) (.t 79), none, 8191⟩] true)
 (.seq (.reg [⟨(some 81), .load true 8 (.t 10), none, 0⟩,
   ⟨(some 82), .load true 7 (.t 12), none, 0⟩,
   ⟨(some 83), .call (.f 57) [.t 81, .t 82], none, 3⟩,
   ⟨(some 8), .mv (.t 83), none, 7⟩,
   ⟨(some 9), .mv (.c (.pv (.int .i64 (0)))), none, 15⟩] false)
 (.ret)))))))))⟩
def c38 : RFn := ⟨1, 8, [.cell 2 true 7],
 .seq (.reg [⟨(some 2), .alloc [.pv (.int .i64 (0)), .pv (.bool false), .pv (.int .i64 (0)), .pv (.str []), .pv (.int .i64 (0)), .pv (.int .i64 (0)), .pv (.int .i64 (0))], none, 0⟩] false)
 (.seq (.reg [⟨(some 4), .build [.pv (.int .i64 (0)), .pv (.bool false), .pv (.int .i64 (0)), .pv (.str []), .pv (.int .i64 (0)), .pv (.int .i64 (0)), .pv (.int .i64 (0))] [(0, 1, .c (.pv (.int .i64 (2))))], none, 0⟩,
   ⟨(some 3), .alloc [.pv (.int .i64 (0)), .pv (.bool false), .pv (.int .i64 (0)), .pv (.str []), .pv (.int .i64 (0)), .pv (.int .i64 (0)), .pv (.int .i64 (0))], none, 0⟩,
   ⟨none, .store 7 (.t 3) (.t 4), none, 3⟩] false)
 (.seq (.seq (.reg [⟨(some 5), .mv (.t 0), none, 0⟩] false)
 (.cond (.t 5)
  (.reg [⟨(some 6), .faddr (.t 3) 2, none, 0⟩,
    ⟨none, .store 1 (.t 6) (.c (.pv (.int .i64 (1)))), none, 1⟩] false)
  (.skip)))
 (.seq (.reg [⟨(some 7), .load true 7 (.t 3), none, 0⟩,
   ⟨none, .store 7 (.t 2) (.t 7), none, 1⟩] false)
 (.ret))))⟩
def c39 : RFn := ⟨1, 5, [.cell 2 true 7],
 .seq (.reg [⟨(some 2), .alloc [.pv (.int .i64 (0)), .pv (.str []), .emp 7, .emp 7, .emp 7, .pv (.int .i64 (0)), .pv (.int .i64 (0))], none, 0⟩] false)
 (.seq (.reg [⟨(some 3), .mv (.t 0), none, 0⟩,
   ⟨(some 4), .build [.pv (.int .i64 (0)), .pv (.str []), .emp 7, .emp 7, .emp 7, .pv (.int .i64 (0)), .pv (.int .i64 (0))] [(0, 1, .c (.pv (.int .i64 (3)))), (5, 1, .t 3)], none, 1⟩,
   ⟨none, .store 7 (.t 2) (.t 4), none, 3⟩] false)
 (.ret))⟩
def c40 : RFn := ⟨1, 5, [.cell 2 true 7],
 .seq (.reg [⟨(some 2), .alloc [.pv (.int .i64 (0)), .pv (.bool false), .pv (.int .i64 (0)), .pv (.str []), .pv (.int .i64 (0)), .pv (.int .i64 (0)), .pv (.int .i64 (0))], none, 0⟩] false)
 (.seq (.reg [⟨(some 3), .mv (.t 0), none, 0⟩,
   ⟨(some 4), .build [.pv (.int .i64 (0)), .pv (.bool false), .pv (.int .i64 (0)), .pv (.str []), .pv (.int .i64 (0)), .pv (.int .i64 (0)), .pv (.int .i64 (0))] [(0, 1, .c (.pv (.int .i64 (5)))), (3, 1, .t 3)], none, 1⟩,
   ⟨none, .store 7 (.t 2) (.t 4), none, 3⟩] false)
 (.ret))⟩
def c41 : RFn := ⟨0, 2, [.tmp 0],
 .seq (.reg [⟨(some 0), .mv (.c (.emp 1)), none, 0⟩] false)
 (.seq (.reg [⟨(some 1), .bsl 1 5 [.pv (.str [])] [(0, .c (.pv (.str [70, 111, 110, 116]))), (1, .c (.pv (.str [80, 97, 116, 116, 101, 114, 110]))), (2, .c (.pv (.str [69, 110, 99, 111, 100, 105, 110, 103]))), (3, .c (.pv (.str [70, 111, 114, 109]))), (4, .c (.pv (.str [71, 101, 110, 101, 114, 105, 99])))], none, 0⟩,
   ⟨(some 0), .mv (.t 1), none, 1⟩] false)
 (.ret))⟩
def c42 : RFn := ⟨1, 20, [.tmp 2],
 .seq (.reg [⟨(some 1), .box 7 (.t 0), none, 0⟩,
   ⟨(some 2), .mv (.c (.pv (.int .i64 (0)))), none, 0⟩] false)
 (.seq (.seq (.reg [⟨(some 3), .faddr (.t 1) 0, none, 0⟩,
   ⟨(some 4), .load false 1 (.t 3), none, 1⟩,
   ⟨(some 5), .bin .eql (.t 4) (.c (.pv (.int .i64 (3)))), none, 3⟩] false)
 (.cond (.t 5)
  (.seq (.reg [⟨(some 6), .faddr (.t 1) 5, none, 0⟩,
    ⟨(some 7), .load false 1 (.t 6), none, 1⟩,
    ⟨(some 8), .mm false [.t 7, .c (.pv (.int .i64 (200)))], none, 3⟩,
    ⟨(some 9), .mm true [.c (.pv (.int .i64 (0))), .t 8], none, 7⟩,
    ⟨(some 10), .bin .mul (.c (.pv (.int .i64 (2)))) (.t 9), none, 15⟩,
    ⟨(some 11), .bin .add (.c (.pv (.int .i64 (1)))) (.t 10), none, 31⟩,
    ⟨(some 2), .mv (.t 11), none, 63⟩] false)
  (.ret))
  (.skip)))
 (.seq (.reg [⟨(some 12), .faddr (.t 1) 1, none, 0⟩,
   ⟨(some 13), .load false 1 (.t 12), none, 1⟩,
   ⟨(some 14), .strlen (.t 13), none, 3⟩,
   ⟨(some 15), .bin .add (.c (.pv (.int .i64 (1)))) (.t 14), none, 7⟩,
   ⟨(some 16), .faddr (.t 1) 2, none, 0⟩,
   ⟨(some 17), .load false 1 (.t 16), none, 16⟩,
   ⟨(some 18), .slen (.t 17), none, 48⟩,
   ⟨(some 19), .bin .add (.t 15) (.t 18), none, 127⟩,
   ⟨(some 2), .mv (.t 19), none, 255⟩] false)
 (.ret)))⟩
def c43 : RFn := ⟨1, 4, [.tmp 2],
 .seq (.reg [⟨(some 1), .box 7 (.t 0), none, 0⟩,
   ⟨(some 2), .mv (.c (.pv .nilFunc)), none, 0⟩] false)
 (.seq (.reg [⟨(some 3), .mkf (.func 58) [] [.t 1], none, 0⟩,
   ⟨(some 2), .mv (.t 3), none, 1⟩] false)
 (.ret))⟩
def c44 : RFn := ⟨1, 37, [.cell 2 true 7, .tmp 3],
 .seq (.reg [⟨(some 1), .box 7 (.t 0), none, 0⟩,
   ⟨(some 2), .alloc [.pv (.int .i64 (0)), .pv (.bool false), .pv (.int .i64 (0)), .pv (.str []), .pv (.int .i64 (0)), .pv (.int .i64 (0)), .pv (.int .i64 (0))], none, 0⟩,
   ⟨(some 3), .mv (.c (.pv (.int .i64 (0)))), none, 0⟩] false)
 (.seq (.seq (.reg [⟨(some 5), .load true 7 (.t 1), none, 0⟩,
   ⟨(some 6), .call (.f 52) [.t 5], none, 1⟩,
   ⟨(some 4), .mv (.t 6), none, 3⟩] false)
 (.seq (.reg [⟨(some 7), .mv (.t 4), none, 0⟩,
   ⟨(some 8), .bin .neq (.t 7) (.c (.pv (.int .i64 (0)))), none, 1⟩] false)
 (.cond (.t 8)
  (.seq (.reg [⟨(some 9), .build [.pv (.int .i64 (0)), .pv (.bool false), .pv (.int .i64 (0)), .pv (.str []), .pv (.int .i64 (0)), .pv (.int .i64 (0)), .pv (.int .i64 (0))] [], none, 0⟩,
    ⟨(some 10), .mv (.t 4), none, 0⟩,
    ⟨none, .store 7 (.t 2) (.t 9), none, 1⟩,
    ⟨(some 3), .mv (.t 10), none, 7⟩] false)
  (.ret))
  (.skip))))
 (.seq (.seq (.reg [⟨(some 11), .load true 7 (.t 1), none, 0⟩,
   ⟨(some 12), .faddr (.t 1) 1, none, 0⟩,
   ⟨(some 13), .load false 1 (.t 12), none, 2⟩,
   ⟨(some 14), .build [.pv (.int .i64 (0)), .pv (.bool false), .pv (.int .i64 (0)), .pv (.str []), .pv (.int .i64 (0)), .pv (.int .i64 (0)), .pv (.int .i64 (0))] [(0, 1, .c (.pv (.int .i64 (0)))), (1, 1, .t 13)], none, 6⟩,
   ⟨(some 15), .eqs false [0, 1, 0, 2, 0, 0, 0] (.t 11) (.t 14), none, 15⟩,
   ⟨(some 16), .mv (.t 15), none, 31⟩,
   ⟨(some 17), .faddr (.t 1) 0, (some (16, false)), 63⟩,
   ⟨(some 18), .load false 1 (.t 17), (some (16, false)), 127⟩,
   ⟨(some 19), .bin .eql (.t 18) (.c (.pv (.int .i64 (6)))), (some (16, false)), 255⟩,
   ⟨(some 20), .pick (.t 16) (.c (.pv (.bool true))) (.t 19), none, 511⟩] false)
 (.cond (.t 20)
  (.seq (.reg [⟨(some 21), .build [.pv (.int .i64 (0)), .pv (.bool false), .pv (.int .i64 (0)), .pv (.str []), .pv (.int .i64 (0)), .pv (.int .i64 (0)), .pv (.int .i64 (0))] [], none, 0⟩,
    ⟨none, .store 7 (.t 2) (.t 21), none, 1⟩,
    ⟨(some 3), .mv (.c (.pv (.int .i64 (22)))), none, 3⟩] false)
  (.ret))
  (.skip)))
 (.seq (.seq (.reg [⟨(some 22), .faddr (.t 1) 0, none, 0⟩,
   ⟨(some 23), .load false 1 (.t 22), none, 1⟩,
   ⟨(some 24), .bin .eql (.t 23) (.c (.pv (.int .i64 (4)))), none, 3⟩,
   ⟨(some 25), .mv (.t 24), none, 7⟩,
   ⟨(some 26), .faddr (.t 1) 2, (some (25, true)), 15⟩,
   ⟨(some 27), .load false 1 (.t 26), (some (25, true)), 31⟩,
   ⟨(some 28), .bin .rem (.t 27) (.c (.pv (.int .i64 (65536)))), (some (25, true)), 63⟩,
   ⟨(some 29), .bin .eql (.t 28) (.c (.pv (.int .i64 (0)))), (some (25, true)), 127⟩,
   ⟨(some 30), .pick (.t 25) (.t 29) (.c (.pv (.bool false))), none, 255⟩] false)
 (.cond (.t 30)
  (.seq (.reg [⟨(some 31), .load true 7 (.t 1), none, 0⟩,
    ⟨(some 32), .call (.f 59) [.t 31], none, 1⟩,
    ⟨(some 33), .extract (.t 32) 0, none, 3⟩,
    ⟨(some 34), .extract (.t 32) 1, none, 3⟩,
    ⟨none, .store 7 (.t 2) (.t 33), none, 15⟩,
    ⟨(some 3), .mv (.t 34), none, 31⟩] false)
  (.ret))
  (.skip)))
 (.seq (.reg [⟨(some 35), .faddr (.t 1) 1, none, 0⟩,
   ⟨none, .store 1 (.t 35) (.c (.pv (.bool false))), none, 1⟩] false)
 (.seq (.reg [⟨(some 36), .load true 7 (.t 1), none, 0⟩,
   ⟨none, .store 7 (.t 2) (.t 36), none, 1⟩,
   ⟨(some 3), .mv (.c (.pv (.int .i64 (0)))), none, 3⟩] false)
 (.ret))))))⟩
def c45 : RFn := ⟨2, 9, [.tmp 4],
 .seq (.reg [⟨(some 3), .box 7 (.t 1), none, 0⟩,
   ⟨(some 4), .mv (.c (.pv (.bool false))), none, 0⟩] false)
 (.seq (.reg [⟨(some 5), .mv (.t 0), none, 0⟩,
   ⟨(some 6), .load true 7 (.t 3), none, 0⟩,
   ⟨(some 7), .call (.f 46) [.t 5, .t 6], none, 3⟩,
   ⟨(some 8), .bin .geq (.t 7) (.c (.pv (.int .i64 (0)))), none, 7⟩,
   ⟨(some 4), .mv (.t 8), none, 15⟩] false)
 (.ret))⟩
def c46 : RFn := ⟨2, 19, [.tmp 4],
 .seq (.reg [⟨(some 3), .box 7 (.t 1), none, 0⟩,
   ⟨(some 4), .mv (.c (.pv (.int .i64 (0)))), none, 0⟩] false)
 (.seq (.seq (.reg [⟨(some 6), .mv (.t 0), none, 0⟩,
   ⟨(some 7), .slen (.t 6), none, 1⟩,
   ⟨(some 8), .mv (.c (.pv (.int .i64 (0)))), none, 0⟩] false)
 (.block 0
  (.loop [0, 3, 7, 8]
   (.seq (.reg [⟨(some 9), .bin .lss (.t 8) (.t 7), none, 0⟩] false)
   (.seq (.cond (.t 9)
    (.skip)
    (.exit 0))
   (.seq (.block 1
    (.seq (.reg [⟨(some 10), .mv (.t 8), none, 0⟩,
      ⟨(some 5), .mv (.t 10), none, 1⟩] false)
    (.seq (.reg [⟨(some 11), .load true 7 (.t 3), none, 0⟩,
      ⟨(some 12), .mv (.t 0), none, 0⟩,
      ⟨(some 13), .mv (.t 5), none, 0⟩,
      ⟨(some 14), .iaddr 7 (.t 12) (.t 13), none, 6⟩,
      ⟨(some 15), .load true 7 (.t 14), none, 14⟩,
      ⟨(some 16), .eqs false [0, 1, 0, 2, 0, 0, 0] (.t 11) (.t 15), none, 31⟩] true)
    (.cond (.t 16)
     (.seq (.reg [⟨(some 17), .mv (.t 5), none, 0⟩,
       ⟨(some 4), .mv (.t 17), none, 1⟩] false)
     (.ret))
     (.skip)))))
   (.reg [⟨(some 18), .bin .add (.t 8) (.c (.pv (.int .i64 (1)))), none, 0⟩,
     ⟨(some 8), .mv (.t 18), none, 1⟩] false)))))))
 (.seq (.reg [⟨(some 4), .mv (.c (.pv (.int .i64 (-1)))), none, 0⟩] false)
 (.ret)))⟩
def c47 : RFn := ⟨2, 9, [.tmp 4],
 .seq (.reg [⟨(some 4), .mv (.c (.pv (.bool false))), none, 0⟩] false)
 (.seq (.reg [⟨(some 5), .mv (.t 0), none, 0⟩,
   ⟨(some 6), .mv (.t 1), none, 0⟩,
   ⟨(some 7), .call (.f 60) [.t 5, .t 6], none, 3⟩,
   ⟨(some 8), .bin .geq (.t 7) (.c (.pv (.int .i64 (0)))), none, 7⟩,
   ⟨(some 4), .mv (.t 8), none, 15⟩] false)
 (.ret))⟩
def c48 : RFn := ⟨2, 27, [.tmp 4, .tmp 5],
 .seq (.reg [⟨(some 2), .box 67 (.t 0), none, 0⟩,
   ⟨(some 4), .mv (.c (.emp 7)), none, 0⟩,
   ⟨(some 5), .mv (.c (.pv (.int .i64 (0)))), none, 2⟩] false)
 (.seq (.seq (.reg [⟨(some 6), .mv (.t 1), none, 0⟩,
   ⟨(some 7), .bin .lss (.t 6) (.c (.pv (.int .i64 (0)))), none, 1⟩] false)
 (.cond (.t 7)
  (.seq (.reg [⟨(some 4), .mv (.c (.emp 7)), none, 0⟩,
    ⟨(some 5), .mv (.c (.pv (.int .i64 (2)))), none, 1⟩] false)
  (.ret))
  (.skip)))
 (.seq (.seq (.reg [⟨(some 8), .mv (.t 1), none, 0⟩,
   ⟨(some 9), .faddr (.t 2) 0, none, 0⟩,
   ⟨(some 10), .load false 1 (.t 9), none, 2⟩,
   ⟨(some 11), .slen (.t 10), none, 6⟩,
   ⟨(some 12), .bin .gtr (.t 8) (.t 11), none, 15⟩] false)
 (.cond (.t 12)
  (.seq (.reg [⟨(some 4), .mv (.c (.emp 7)), none, 0⟩,
    ⟨(some 5), .mv (.c (.pv (.int .i64 (20)))), none, 1⟩] false)
  (.ret))
  (.skip)))
 (.seq (.reg [⟨(some 13), .faddr (.t 2) 0, none, 0⟩,
   ⟨(some 14), .load false 1 (.t 13), none, 1⟩,
   ⟨(some 15), .faddr (.t 2) 0, none, 0⟩,
   ⟨(some 16), .load false 1 (.t 15), none, 4⟩,
   ⟨(some 17), .slen (.t 16), none, 12⟩,
   ⟨(some 18), .mv (.t 1), none, 0⟩,
   ⟨(some 19), .bin .sub (.t 17) (.t 18), none, 60⟩,
   ⟨(some 20), .faddr (.t 2) 0, none, 0⟩,
   ⟨(some 21), .load false 1 (.t 20), none, 128⟩,
   ⟨(some 22), .slen (.t 21), none, 384⟩,
   ⟨(some 23), .faddr (.t 2) 0, none, 0⟩,
   ⟨(some 24), .load false 1 (.t 23), none, 1024⟩,
   ⟨(some 25), .slen (.t 24), none, 3072⟩,
   ⟨(some 26), .slice 7 (.t 14) (some (.t 19)) (some (.t 22)) (some (.t 25)), none, 8191⟩,
   ⟨(some 4), .mv (.t 26), none, 16383⟩,
   ⟨(some 5), .mv (.c (.pv (.int .i64 (0)))), none, 32767⟩] false)
 (.ret))))⟩
def c49 : RFn := ⟨2, 30, [.cell 4 true 67, .tmp 5],
 .seq (.reg [⟨(some 2), .box 67 (.t 0), none, 0⟩,
   ⟨(some 4), .alloc [.emp 7, .emp 7, .emp 7, .emp 3, .pv (.int .i64 (0)), .pv (.int .i64 (0)), .pv (.int .i64 (0)), .pv (.int .i64 (0)), .pv (.int .i64 (0)), .pv (.int .i64 (0)), .pv (.int .i64 (0)), .emp 7, .pv (.int .i64 (0)), .pv (.int .i64 (0)), .pv (.int .i64 (0)), .pv (.int .i64 (0)), .pv (.int .i64 (0)), .pv (.int .i64 (0)), .pv (.int .i64 (0)), .pv (.int .i64 (0)), .pv (.int .i64 (0)), .pv (.int .i64 (0)), .pv (.int .i64 (0)), .pv (.int .i64 (0)), .pv (.int .i64 (0)), .pv (.int .i64 (0)), .pv (.int .i64 (0)), .pv (.int .i64 (0)), .pv (.int .i64 (0)), .pv (.int .i64 (0)), .pv (.int .i64 (0)), .pv (.int .i64 (0)), .pv (.bool false), .pv (.bool false), .emp 47, .pv (.int .i64 (0)), .pv (.int .i64 (0)), .pv (.int .i64 (0)), .pv (.int .i64 (0)), .pv (.int .i64 (0)), .pv (.int .i64 (0)), .pv (.int .i64 (0)), .pv (.int .i64 (0)), .emp 1, .pv (.int .i64 (0)), .pv (.int .i64 (0)), .emp 2, .pv (.int .i64 (0)), .pv (.bool false), .pv (.int .i64 (0)), .pv (.str []), .pv (.int .i64 (0)), .pv (.int .i64 (0)), .pv (.int .i64 (0)), .pv (.int .i64 (0)), .pv (.int .i64 (0)), .pv (.int .i64 (0)), .pv (.int .i64 (0)), .pv (.int .i64 (0)), .pv (.int .i64 (0)), .pv (.int .i64 (0)), .pv (.int .i64 (0)), .emp 57, .emp 47, .emp 3, .pv (.str []), .pv (.int .i64 (0))], none, 0⟩,
   ⟨(some 5), .mv (.c (.pv (.int .i64 (0)))), none, 0⟩] false)
 (.seq (.seq (.reg [⟨(some 6), .mv (.t 1), none, 0⟩,
   ⟨(some 7), .bin .lss (.t 6) (.c (.pv (.int .i64 (0)))), none, 1⟩] false)
 (.cond (.t 7)
  (.seq (.reg [⟨(some 8), .load true 67 (.t 2), none, 0⟩,
    ⟨none, .store 67 (.t 4) (.t 8), none, 1⟩,
    ⟨(some 5), .mv (.c (.pv (.int .i64 (2)))), none, 3⟩] false)
  (.ret))
  (.skip)))
 (.seq (.seq (.reg [⟨(some 9), .mv (.t 1), none, 0⟩,
   ⟨(some 10), .faddr (.t 2) 0, none, 0⟩,
   ⟨(some 11), .load false 1 (.t 10), none, 2⟩,
   ⟨(some 12), .slen (.t 11), none, 6⟩,
   ⟨(some 13), .bin .gtr (.t 9) (.t 12), none, 15⟩] false)
 (.cond (.t 13)
  (.seq (.reg [⟨(some 14), .load true 67 (.t 2), none, 0⟩,
    ⟨none, .store 67 (.t 4) (.t 14), none, 1⟩,
    ⟨(some 5), .mv (.c (.pv (.int .i64 (20)))), none, 3⟩] false)
  (.ret))
  (.skip)))
 (.seq (.reg [⟨(some 15), .faddr (.t 2) 0, none, 0⟩,
   ⟨(some 16), .load false 1 (.t 15), none, 1⟩,
   ⟨(some 17), .faddr (.t 2) 0, none, 0⟩,
   ⟨(some 18), .load false 1 (.t 17), none, 4⟩,
   ⟨(some 19), .slen (.t 18), none, 12⟩,
   ⟨(some 20), .mv (.t 1), none, 0⟩,
   ⟨(some 21), .bin .sub (.t 19) (.t 20), none, 60⟩,
   ⟨(some 22), .faddr (.t 2) 0, none, 0⟩,
   ⟨(some 23), .load false 1 (.t 22), none, 128⟩,
   ⟨(some 24), .slen (.t 23), none, 384⟩,
   ⟨(some 25), .mv (.t 1), none, 0⟩,
   ⟨(some 26), .bin .sub (.t 24) (.t 25), none, 1920⟩,
   ⟨(some 27), .slice 7 (.t 16) none (some (.t 21)) (some (.t 26)), none, 4095⟩,
   ⟨(some 28), .faddr (.t 2) 0, none, 8191⟩,
   ⟨none, .store 1 (.t 28) (.t 27), none, 16383⟩] false)
 (.seq (.reg [⟨(some 29), .load true 67 (.t 2), none, 0⟩,
   ⟨none, .store 67 (.t 4) (.t 29), none, 1⟩,
   ⟨(some 5), .mv (.c (.pv (.int .i64 (0)))), none, 3⟩] false)
 (.ret)))))⟩
def c50 : RFn := ⟨3, 22, [.tmp 6],
 .seq (.reg [⟨(some 3), .box 67 (.t 0), none, 0⟩,
   ⟨(some 4), .box 1 (.t 1), none, 0⟩,
   ⟨(some 6), .mv (.c (.emp 7)), none, 0⟩] false)
 (.seq (.reg [⟨(some 10), .mkf (.func 61) [] [.t 4], none, 0⟩,
   ⟨(some 7), .mv (.t 10), none, 1⟩] false)
 (.seq (.seq (.reg [⟨(some 11), .mv (.t 2), none, 0⟩,
   ⟨(some 12), .slen (.t 11), none, 1⟩,
   ⟨(some 13), .mv (.c (.pv (.int .i64 (0)))), none, 0⟩] false)
 (.block 0
  (.loop [4, 7, 11, 12, 13]
   (.seq (.reg [⟨(some 14), .bin .lss (.t 13) (.t 12), none, 0⟩] false)
   (.seq (.cond (.t 14)
    (.skip)
    (.exit 0))
   (.seq (.block 1
    (.seq (.reg [⟨(some 15), .iaddr 8 (.t 11) (.t 13), none, 0⟩,
      ⟨(some 16), .load true 8 (.t 15), none, 1⟩,
      ⟨(some 9), .alloc [.pv (.str []), .pv (.int .i64 (0)), .pv (.bool false), .pv (.int .i64 (0)), .pv (.str []), .pv (.int .i64 (0)), .pv (.int .i64 (0)), .pv (.int .i64 (0))], none, 0⟩,
      ⟨none, .store 8 (.t 9) (.t 16), none, 7⟩] false)
    (.reg [⟨(some 17), .mv (.t 7), none, 0⟩,
      ⟨(some 18), .load true 8 (.t 9), none, 0⟩,
      ⟨(some 19), .call (.t 17) [.t 18], none, 3⟩] false)))
   (.reg [⟨(some 20), .bin .add (.t 13) (.c (.pv (.int .i64 (1)))), none, 0⟩,
     ⟨(some 13), .mv (.t 20), none, 1⟩] false)))))))
 (.seq (.reg [⟨(some 21), .load false 1 (.t 4), none, 0⟩,
   ⟨(some 6), .mv (.t 21), none, 1⟩] false)
 (.ret))))⟩
def c51 : RFn := ⟨2, 26, [.tmp 4],
 .seq (.reg [⟨(some 2), .box 67 (.t 0), none, 0⟩,
   ⟨(some 4), .mv (.c (.pv (.str []))), none, 0⟩] false)
 (.seq (.reg [⟨(some 9), .faddr (.t 2) 0, none, 0⟩,
   ⟨(some 10), .faddr (.t 9) 2, none, 1⟩,
   ⟨(some 11), .load false 1 (.t 10), none, 3⟩,
   ⟨(some 12), .call (.f 28) [.c (.pv (.int .i64 (3)))], none, 0⟩,
   ⟨(some 13), .mv (.t 1), none, 0⟩,
   ⟨(some 14), .call (.f 29) [.t 13], none, 24⟩,
   ⟨(some 15), .call (.f 27) [.t 11, .t 12, .t 14], none, 63⟩,
   ⟨(some 8), .mv (.t 15), none, 127⟩,
   ⟨(some 16), .extract (.t 8) 0, none, 255⟩,
   ⟨(some 17), .extract (.t 8) 1, none, 255⟩,
   ⟨(some 18), .extract (.t 8) 2, none, 255⟩,
   ⟨(some 5), .alloc [.pv (.int .i64 (0)), .pv (.bool false), .pv (.int .i64 (0)), .pv (.str []), .pv (.int .i64 (0)), .pv (.int .i64 (0)), .pv (.int .i64 (0))], none, 0⟩,
   ⟨none, .store 7 (.t 5) (.t 16), none, 2559⟩,
   ⟨(some 6), .mv (.t 17), none, 7167⟩,
   ⟨(some 7), .mv (.t 18), none, 16383⟩] true)
 (.seq (.seq (.reg [⟨(some 19), .mv (.t 6), none, 0⟩,
   ⟨(some 20), .not (.t 19), none, 1⟩] false)
 (.cond (.t 20)
  (.seq (.reg [⟨(some 4), .mv (.c (.pv (.str []))), none, 0⟩] false)
  (.ret))
  (.skip)))
 (.seq (.reg [⟨(some 21), .faddr (.t 2) 0, none, 0⟩,
   ⟨(some 22), .faddr (.t 21) 2, none, 1⟩,
   ⟨(some 23), .load false 1 (.t 22), none, 3⟩,
   ⟨(some 24), .load true 7 (.t 5), none, 0⟩,
   ⟨(some 25), .call (.f 62) [.t 23, .t 24], none, 15⟩,
   ⟨(some 4), .mv (.t 25), none, 31⟩] false)
 (.ret))))⟩
def c52 : RFn := ⟨1, 30, [.tmp 2],
 .seq (.reg [⟨(some 1), .box 7 (.t 0), none, 0⟩,
   ⟨(some 2), .mv (.c (.pv (.int .i64 (0)))), none, 0⟩] false)
 (.scope
  (.seq (.seq (.reg [⟨(some 7), .faddr (.t 1) 0, none, 0⟩,
    ⟨(some 8), .load false 1 (.t 7), none, 1⟩,
    ⟨(some 9), .bin .lss (.t 8) (.c (.pv (.int .i64 (0)))), none, 3⟩,
    ⟨(some 10), .mv (.t 9), none, 7⟩,
    ⟨(some 11), .faddr (.t 1) 0, (some (10, false)), 15⟩,
    ⟨(some 12), .load false 1 (.t 11), (some (10, false)), 31⟩,
    ⟨(some 13), .bin .geq (.t 12) (.c (.pv (.int .i64 (13)))), (some (10, false)), 63⟩,
    ⟨(some 14), .pick (.t 10) (.c (.pv (.bool true))) (.t 13), none, 127⟩] false)
  (.cond (.t 14)
   (.seq (.reg [⟨(some 2), .mv (.c (.pv (.int .i64 (200)))), none, 0⟩] false)
   (.ret))
   (.skip)))
  (.seq (.reg [⟨(some 15), .call (.f 63) [], none, 0⟩,
    ⟨(some 16), .faddr (.t 1) 0, none, 0⟩,
    ⟨(some 17), .load false 1 (.t 16), none, 2⟩,
    ⟨(some 18), .index true 13 6 (.t 15) (.t 17), none, 7⟩,
    ⟨(some 3), .alloc [.pv (.str []), .pv (.int .i64 (0)), .pv (.int .i64 (0)), .pv (.int .i64 (0)), .pv (.int .i64 (0)), .pv (.int .i64 (0))], none, 0⟩,
    ⟨none, .store 6 (.t 3) (.t 18), none, 31⟩] true)
  (.seq (.reg [⟨(some 4), .mv (.c (.pv (.int .i64 (0)))), none, 0⟩] false)
  (.seq (.skip)
  (.seq (.seq (.reg [⟨(some 19), .build [.pv .nilFunc, .pv .nilFunc, .pv .nilFunc] [(0, 1, .f 64), (1, 1, .f 65), (2, 1, .f 66)], none, 0⟩,
    ⟨(some 20), .mv (.c (.pv (.int .i64 (0)))), none, 0⟩] false)
  (.block 0
   (.loop [1, 3, 4, 19, 20]
    (.seq (.reg [⟨(some 21), .bin .lss (.t 20) (.c (.pv (.int .i64 (3)))), none, 0⟩] false)
    (.seq (.cond (.t 21)
     (.skip)
     (.exit 0))
    (.seq (.block 1
     (.seq (.reg [⟨(some 22), .index false 3 1 (.t 19) (.t 20), none, 0⟩,
       ⟨(some 6), .mv (.t 22), none, 1⟩] false)
     (.seq (.reg [⟨(some 23), .mv (.t 6), none, 0⟩,
       ⟨(some 24), .load true 6 (.t 3), none, 0⟩,
       ⟨(some 25), .load true 7 (.t 1), none, 0⟩,
       ⟨(some 26), .call (.t 23) [.t 24, .t 25], none, 7⟩,
       ⟨(some 27), .not (.t 26), none, 15⟩] false)
     (.cond (.t 27)
      (.seq (.reg [⟨(some 4), .mv (.c (.pv (.int .i64 (200)))), none, 0⟩] false)
      (.exit 0))
      (.skip)))))
    (.reg [⟨(some 28), .bin .add (.t 20) (.c (.pv (.int .i64 (1)))), none, 0⟩,
      ⟨(some 20), .mv (.t 28), none, 1⟩] false)))))))
  (.seq (.reg [⟨(some 29), .mv (.t 4), none, 0⟩,
    ⟨(some 2), .mv (.t 29), none, 1⟩] false)
  (.ret))))))))⟩
def c53 : RFn := ⟨1, 6, [.tmp 2],
 .seq (.reg [⟨(some 2), .mv (.c (.pv (.int .i64 (0)))), none, 0⟩] false)
 (.seq (.reg [⟨(some 3), .build [.pv (.int .i64 (0)), .pv (.int .i64 (0)), .pv (.int .i64 (0)), .pv (.int .i64 (0)), .pv (.int .i64 (0)), .pv (.int .i64 (0)), .pv (.int .i64 (0)), .pv (.int .i64 (0)), .pv (.int .i64 (0)), .pv (.int .i64 (0)), .pv (.int .i64 (0)), .pv (.int .i64 (0)), .pv (.int .i64 (0)), .pv (.int .i64 (0))] [(6, 1, .c (.pv (.int .i64 (1)))), (7, 1, .c (.pv (.int .i64 (2)))), (8, 1, .c (.pv (.int .i64 (2)))), (9, 1, .c (.pv (.int .i64 (3)))), (11, 1, .c (.pv (.int .i64 (4)))), (13, 1, .c (.pv (.int .i64 (0))))], none, 0⟩,
   ⟨(some 4), .mv (.t 0), none, 0⟩,
   ⟨(some 5), .index false 14 1 (.t 3) (.t 4), none, 3⟩,
   ⟨(some 2), .mv (.t 5), none, 7⟩] false)
 (.ret))⟩
def c54 : RFn := ⟨1, 12, [.tmp 2],
 .seq (.reg [⟨(some 1), .box 7 (.t 0), none, 0⟩,
   ⟨(some 2), .mv (.c (.pv (.int .i64 (0)))), none, 0⟩] false)
 (.seq (.seq (.reg [⟨(some 3), .faddr (.t 1) 0, none, 0⟩,
   ⟨(some 4), .load false 1 (.t 3), none, 1⟩,
   ⟨(some 5), .bin .eql (.t 4) (.c (.pv (.int .i64 (1)))), none, 3⟩] false)
 (.cond (.t 5)
  (.seq (.reg [⟨(some 6), .faddr (.t 1) 1, none, 0⟩,
    ⟨(some 7), .load false 1 (.t 6), none, 1⟩,
    ⟨(some 8), .strlen (.t 7), none, 3⟩,
    ⟨(some 2), .mv (.t 8), none, 7⟩] false)
  (.ret))
  (.skip)))
 (.seq (.reg [⟨(some 9), .faddr (.t 1) 2, none, 0⟩,
   ⟨(some 10), .load false 1 (.t 9), none, 1⟩,
   ⟨(some 11), .slen (.t 10), none, 3⟩,
   ⟨(some 2), .mv (.t 11), none, 7⟩] false)
 (.ret)))⟩
def c55 : RFn := ⟨2, 24, [.tmp 4, .tmp 5, .tmp 6],
 .seq (.reg [⟨(some 3), .box 7 (.t 1), none, 0⟩,
   ⟨(some 4), .mv (.c (.emp 7)), none, 0⟩,
   ⟨(some 5), .mv (.c (.pv (.int .i64 (0)))), none, 2⟩,
   ⟨(some 6), .mv (.c (.pv (.int .i64 (0)))), none, 6⟩] false)
 (.seq (.seq (.reg [⟨(some 7), .mv (.t 0), none, 0⟩,
   ⟨(some 8), .call (.f 23) [.t 7], none, 1⟩,
   ⟨(some 9), .load true 7 (.t 3), none, 0⟩,
   ⟨(some 10), .call (.f 42) [.t 9], none, 7⟩,
   ⟨(some 11), .bin .add (.t 8) (.t 10), none, 15⟩,
   ⟨(some 12), .bin .gtr (.t 11) (.c (.pv (.int .i64 (20000)))), none, 31⟩] true)
 (.cond (.t 12)
  (.seq (.reg [⟨(some 4), .mv (.c (.emp 7)), none, 0⟩,
    ⟨(some 5), .mv (.c (.pv (.int .i64 (0)))), none, 1⟩,
    ⟨(some 6), .mv (.c (.pv (.int .i64 (27)))), none, 3⟩] false)
  (.ret))
  (.skip)))
 (.seq (.reg [⟨(some 13), .mv (.t 0), none, 0⟩,
   ⟨(some 14), .mv (.t 0), none, 0⟩,
   ⟨(some 15), .slen (.t 14), none, 2⟩,
   ⟨(some 16), .mv (.t 0), none, 0⟩,
   ⟨(some 17), .slen (.t 16), none, 8⟩,
   ⟨(some 18), .slice 7 (.t 13) none (some (.t 15)) (some (.t 17)), none, 31⟩,
   ⟨(some 19), .load true 7 (.t 3), none, 0⟩,
   ⟨(some 20), .bsl 7 1 [.pv (.int .i64 (0)), .pv (.str []), .emp 7, .emp 7, .emp 7, .pv (.int .i64 (0)), .pv (.int .i64 (0))] [(0, .t 19)], none, 64⟩,
   ⟨(some 21), .append 7 112 (.t 18) (.t 20), none, 255⟩,
   ⟨(some 22), .mv (.t 0), none, 0⟩,
   ⟨(some 23), .slen (.t 22), none, 512⟩,
   ⟨(some 4), .mv (.t 21), none, 511⟩,
   ⟨(some 5), .mv (.t 23), none, 4095⟩,
   ⟨(some 6), .mv (.c (.pv (.int .i64 (0)))), none, 8191⟩] true)
 (.ret)))⟩
def c56 : RFn := ⟨3, 20, [.tmp 6],
 .seq (.reg [⟨(some 6), .mv (.c (.emp 7)), none, 0⟩] false)
 (.seq (.reg [⟨(some 8), .mv (.t 0), none, 0⟩,
   ⟨(some 9), .slen (.t 8), none, 1⟩,
   ⟨(some 10), .mksl 7 64 [.int .i64 (0), .bool false, .int .i64 (0), .str [], .int .i64 (0), .int .i64 (0), .int .i64 (0)] (.t 9), none, 3⟩,
   ⟨(some 7), .mv (.t 10), none, 7⟩] false)
 (.seq (.reg [⟨(some 11), .mv (.t 7), none, 0⟩,
   ⟨(some 12), .mv (.t 0), none, 0⟩,
   ⟨(some 13), .copy 7 (.t 11) (.t 12), none, 3⟩] false)
 (.seq (.reg [⟨(some 14), .mv (.t 7), none, 0⟩,
   ⟨(some 15), .mv (.t 1), none, 0⟩,
   ⟨(some 16), .slice 7 (.t 14) (some (.t 15)) none none, none, 3⟩,
   ⟨(some 17), .mv (.t 2), none, 0⟩,
   ⟨(some 18), .copy 7 (.t 16) (.t 17), none, 15⟩] false)
 (.seq (.reg [⟨(some 19), .mv (.t 7), none, 0⟩,
   ⟨(some 6), .mv (.t 19), none, 1⟩] false)
 (.ret)))))⟩
def c57 : RFn := ⟨2, 23, [.tmp 4],
 .seq (.reg [⟨(some 2), .box 8 (.t 0), none, 0⟩,
   ⟨(some 3), .box 7 (.t 1), none, 0⟩,
   ⟨(some 4), .mv (.c (.emp 7)), none, 0⟩] false)
 (.seq (.reg [⟨(some 6), .faddr (.t 2) 0, none, 0⟩,
   ⟨(some 7), .faddr (.t 6) 0, none, 1⟩,
   ⟨(some 8), .load false 1 (.t 7), none, 3⟩,
   ⟨(some 9), .slen (.t 8), none, 7⟩,
   ⟨(some 10), .mksl 7 112 [.int .i64 (0), .str [], .sl 7 [], .sl 7 [], .sl 7 [], .int .i64 (0), .int .i64 (0)] (.t 9), none, 15⟩,
   ⟨(some 5), .mv (.t 10), none, 31⟩] false)
 (.seq (.reg [⟨(some 11), .mv (.t 5), none, 0⟩,
   ⟨(some 12), .faddr (.t 2) 0, none, 0⟩,
   ⟨(some 13), .faddr (.t 12) 0, none, 2⟩,
   ⟨(some 14), .load false 1 (.t 13), none, 6⟩,
   ⟨(some 15), .copy 7 (.t 11) (.t 14), none, 15⟩] false)
 (.seq (.reg [⟨(some 16), .mv (.t 5), none, 0⟩,
   ⟨(some 17), .faddr (.t 2) 1, none, 0⟩,
   ⟨(some 18), .faddr (.t 17) 4, none, 2⟩,
   ⟨(some 19), .load false 1 (.t 18), none, 6⟩,
   ⟨(some 20), .load true 7 (.t 3), none, 0⟩,
   ⟨(some 21), .iaddr 7 (.t 16) (.t 19), none, 31⟩,
   ⟨none, .store 7 (.t 21) (.t 20), none, 63⟩] false)
 (.seq (.reg [⟨(some 22), .mv (.t 5), none, 0⟩,
   ⟨(some 4), .mv (.t 22), none, 1⟩] false)
 (.ret)))))⟩
def c58 : RFn := ⟨2, 29, [],
 .seq (.reg [⟨(some 7), .faddr (.t 1) 2, none, 0⟩,
   ⟨(some 8), .load false 1 (.t 7), none, 1⟩,
   ⟨(some 9), .faddr (.t 1) 3, none, 0⟩,
   ⟨(some 10), .load false 1 (.t 9), none, 4⟩,
   ⟨(some 11), .faddr (.t 1) 4, none, 0⟩,
   ⟨(some 12), .load false 1 (.t 11), none, 16⟩,
   ⟨(some 13), .build [.emp 7, .emp 7, .emp 7] [(0, 1, .t 8), (1, 1, .t 10), (2, 1, .t 12)], none, 63⟩,
   ⟨(some 14), .mv (.c (.pv (.int .i64 (0)))), none, 0⟩] false)
 (.block 0
  (.loop [0, 13, 14]
   (.seq (.reg [⟨(some 15), .bin .lss (.t 14) (.c (.pv (.int .i64 (3)))), none, 0⟩] false)
   (.seq (.cond (.t 15)
    (.skip)
    (.exit 0))
   (.seq (.block 1
    (.seq (.reg [⟨(some 16), .index false 3 1 (.t 13) (.t 14), none, 0⟩,
      ⟨(some 4), .mv (.t 16), none, 1⟩] false)
    (.seq (.reg [⟨(some 17), .mv (.t 4), none, 0⟩,
      ⟨(some 18), .slen (.t 17), none, 1⟩,
      ⟨(some 19), .mv (.c (.pv (.int .i64 (0)))), none, 0⟩] false)
    (.block 2
     (.loop [0, 13, 14, 17, 18, 19]
      (.seq (.reg [⟨(some 20), .bin .lss (.t 19) (.t 18), none, 0⟩] false)
      (.seq (.cond (.t 20)
       (.skip)
       (.exit 2))
      (.seq (.block 3
       (.seq (.reg [⟨(some 21), .iaddr 7 (.t 17) (.t 19), none, 0⟩,
         ⟨(some 22), .load true 7 (.t 21), none, 1⟩,
         ⟨(some 6), .alloc [.pv (.int .i64 (0)), .pv (.bool false), .pv (.int .i64 (0)), .pv (.str []), .pv (.int .i64 (0)), .pv (.int .i64 (0)), .pv (.int .i64 (0))], none, 0⟩,
         ⟨none, .store 7 (.t 6) (.t 22), none, 7⟩] false)
       (.seq (.reg [⟨(some 23), .mv (.t 0), none, 0⟩,
         ⟨(some 24), .load true 7 (.t 6), none, 0⟩,
         ⟨(some 25), .call (.t 23) [.t 24], none, 3⟩,
         ⟨(some 26), .not (.t 25), none, 7⟩] false)
       (.cond (.t 26)
        (.ret)
        (.skip)))))
      (.reg [⟨(some 27), .bin .add (.t 19) (.c (.pv (.int .i64 (1)))), none, 0⟩,
        ⟨(some 19), .mv (.t 27), none, 1⟩] false)))))))))
   (.reg [⟨(some 28), .bin .add (.t 14) (.c (.pv (.int .i64 (1)))), none, 0⟩,
     ⟨(some 14), .mv (.t 28), none, 1⟩] false))))))⟩
def c59 : RFn := ⟨1, 20, [.cell 2 true 7, .tmp 3],
 .seq (.reg [⟨(some 1), .box 7 (.t 0), none, 0⟩,
   ⟨(some 2), .alloc [.pv (.int .i64 (0)), .pv (.bool false), .pv (.int .i64 (0)), .pv (.str []), .pv (.int .i64 (0)), .pv (.int .i64 (0)), .pv (.int .i64 (0))], none, 0⟩,
   ⟨(some 3), .mv (.c (.pv (.int .i64 (0)))), none, 0⟩] false)
 (.seq (.reg [⟨(some 7), .load true 7 (.t 1), none, 0⟩,
   ⟨(some 8), .call (.f 67) [.t 7], none, 1⟩,
   ⟨(some 6), .mv (.t 8), none, 3⟩,
   ⟨(some 9), .extract (.t 6) 0, none, 7⟩,
   ⟨(some 10), .extract (.t 6) 1, none, 7⟩,
   ⟨(some 4), .mv (.t 9), none, 15⟩,
   ⟨(some 5), .mv (.t 10), none, 63⟩] false)
 (.seq (.seq (.reg [⟨(some 11), .mv (.t 5), none, 0⟩,
   ⟨(some 12), .bin .neq (.t 11) (.c (.pv (.int .i64 (0)))), none, 1⟩] false)
 (.cond (.t 12)
  (.seq (.reg [⟨(some 13), .build [.pv (.int .i64 (0)), .pv (.bool false), .pv (.int .i64 (0)), .pv (.str []), .pv (.int .i64 (0)), .pv (.int .i64 (0)), .pv (.int .i64 (0))] [], none, 0⟩,
    ⟨(some 14), .mv (.t 5), none, 0⟩,
    ⟨none, .store 7 (.t 2) (.t 13), none, 1⟩,
    ⟨(some 3), .mv (.t 14), none, 7⟩] false)
  (.ret))
  (.skip)))
 (.seq (.reg [⟨(some 15), .mv (.t 4), none, 0⟩,
   ⟨(some 16), .bin .quo (.t 15) (.c (.pv (.int .i64 (65536)))), none, 1⟩,
   ⟨(some 17), .call (.f 68) [.t 16], none, 3⟩,
   ⟨(some 18), .extract (.t 17) 0, none, 7⟩,
   ⟨(some 19), .extract (.t 17) 1, none, 7⟩,
   ⟨none, .store 7 (.t 2) (.t 18), none, 31⟩,
   ⟨(some 3), .mv (.t 19), none, 63⟩] false)
 (.ret))))⟩
def c60 : RFn := ⟨2, 19, [.tmp 4],
 .seq (.reg [⟨(some 4), .mv (.c (.pv (.int .i64 (0)))), none, 0⟩] false)
 (.seq (.seq (.reg [⟨(some 6), .mv (.t 0), none, 0⟩,
   ⟨(some 7), .slen (.t 6), none, 1⟩,
   ⟨(some 8), .mv (.c (.pv (.int .i64 (0)))), none, 0⟩] false)
 (.block 0
  (.loop [0, 1, 7, 8]
   (.seq (.reg [⟨(some 9), .bin .lss (.t 8) (.t 7), none, 0⟩] false)
   (.seq (.cond (.t 9)
    (.skip)
    (.exit 0))
   (.seq (.block 1
    (.seq (.reg [⟨(some 10), .mv (.t 8), none, 0⟩,
      ⟨(some 5), .mv (.t 10), none, 1⟩] false)
    (.seq (.reg [⟨(some 11), .mv (.t 1), none, 0⟩,
      ⟨(some 12), .mv (.t 0), none, 0⟩,
      ⟨(some 13), .mv (.t 5), none, 0⟩,
      ⟨(some 14), .iaddr 1 (.t 12) (.t 13), none, 6⟩,
      ⟨(some 15), .load false 1 (.t 14), none, 14⟩,
      ⟨(some 16), .bin .eql (.t 11) (.t 15), none, 31⟩] false)
    (.cond (.t 16)
     (.seq (.reg [⟨(some 17), .mv (.t 5), none, 0⟩,
       ⟨(some 4), .mv (.t 17), none, 1⟩] false)
     (.ret))
     (.skip)))))
   (.reg [⟨(some 18), .bin .add (.t 8) (.c (.pv (.int .i64 (1)))), none, 0⟩,
     ⟨(some 8), .mv (.t 18), none, 1⟩] false)))))))
 (.seq (.reg [⟨(some 4), .mv (.c (.pv (.int .i64 (-1)))), none, 0⟩] false)
 (.ret)))⟩
def c61 : RFn := ⟨2, 19, [],
 .seq (.reg [⟨(some 2), .box 8 (.t 0), none, 0⟩] false)
 (.seq (.reg [⟨(some 6), .load false 1 (.t 1), none, 0⟩,
   ⟨(some 7), .call (.f 28) [.c (.pv (.int .i64 (3)))], none, 0⟩,
   ⟨(some 8), .faddr (.t 2) 0, none, 0⟩,
   ⟨(some 9), .load false 1 (.t 8), none, 4⟩,
   ⟨(some 10), .call (.f 29) [.t 9], none, 14⟩,
   ⟨(some 11), .faddr (.t 2) 1, none, 0⟩,
   ⟨(some 12), .load true 7 (.t 11), none, 32⟩,
   ⟨(some 13), .call (.f 37) [.t 6, .t 7, .t 10, .t 12], none, 127⟩,
   ⟨(some 5), .mv (.t 13), none, 255⟩,
   ⟨(some 14), .extract (.t 5) 0, none, 511⟩,
   ⟨(some 15), .extract (.t 5) 1, none, 511⟩,
   ⟨(some 3), .mv (.t 14), none, 1023⟩,
   ⟨(some 4), .mv (.t 15), none, 4095⟩] true)
 (.seq (.reg [⟨(some 16), .mv (.t 4), none, 0⟩,
   ⟨(some 17), .bin .eql (.t 16) (.c (.pv (.int .i64 (0)))), none, 1⟩] false)
 (.cond (.t 17)
  (.reg [⟨(some 18), .mv (.t 3), none, 0⟩,
    ⟨none, .store 1 (.t 1) (.t 18), none, 1⟩] false)
  (.skip))))⟩
def c62 : RFn := ⟨2, 33, [.tmp 4],
 .seq (.reg [⟨(some 3), .box 7 (.t 1), none, 0⟩,
   ⟨(some 4), .mv (.c (.pv (.str []))), none, 0⟩] false)
 (.seq (.seq (.reg [⟨(some 8), .mv (.t 0), none, 0⟩,
   ⟨(some 9), .load true 7 (.t 3), none, 0⟩,
   ⟨(some 10), .call (.f 34) [.t 8, .t 9], none, 3⟩,
   ⟨(some 11), .not (.t 10), none, 7⟩] false)
 (.cond (.t 11)
  (.seq (.reg [⟨(some 4), .mv (.c (.pv (.str []))), none, 0⟩] false)
  (.ret))
  (.skip)))
 (.seq (.reg [⟨(some 5), .mv (.f 69), none, 0⟩] false)
 (.seq (.reg [⟨(some 12), .build [.pv .nilFunc] [(0, 1, .f 70)], none, 0⟩,
   ⟨(some 13), .build [.pv .nilFunc] [(0, 1, .f 72)], none, 0⟩,
   ⟨(some 14), .build [.pv .nilFunc] [(0, 1, .f 74)], none, 0⟩,
   ⟨(some 15), .mv (.t 5), none, 0⟩,
   ⟨(some 16), .build [.pv .nilFunc] [(0, 1, .t 15)], none, 8⟩,
   ⟨(some 17), .build [.pv .nilFunc] [(0, 1, .f 76)], none, 0⟩,
   ⟨(some 18), .mv (.t 5), none, 0⟩,
   ⟨(some 19), .build [.pv .nilFunc] [(0, 1, .t 18)], none, 64⟩,
   ⟨(some 20), .build [.pv .nilFunc] [], none, 0⟩,
   ⟨(some 21), .build [.pv .nilFunc, .pv .nilFunc, .pv .nilFunc, .pv .nilFunc, .pv .nilFunc, .pv .nilFunc, .pv .nilFunc, .pv .nilFunc, .pv .nilFunc, .pv .nilFunc, .pv .nilFunc, .pv .nilFunc, .pv .nilFunc, .pv .nilFunc] [(2, 1, .t 12), (3, 1, .t 13), (4, 1, .t 14), (5, 1, .t 16), (6, 1, .t 17), (10, 1, .t 19), (13, 1, .t 20)], none, 511⟩,
   ⟨(some 6), .alloc [.pv .nilFunc, .pv .nilFunc, .pv .nilFunc, .pv .nilFunc, .pv .nilFunc, .pv .nilFunc, .pv .nilFunc, .pv .nilFunc, .pv .nilFunc, .pv .nilFunc, .pv .nilFunc, .pv .nilFunc, .pv .nilFunc, .pv .nilFunc], none, 0⟩,
   ⟨none, .store 14 (.t 6) (.t 21), none, 2047⟩] false)
 (.seq (.seq (.reg [⟨(some 22), .faddr (.t 3) 0, none, 0⟩,
   ⟨(some 23), .load false 1 (.t 22), none, 1⟩,
   ⟨(some 24), .paddr 14 1 (.t 6) (.t 23), none, 3⟩,
   ⟨(some 25), .faddr (.t 24) 0, none, 7⟩,
   ⟨(some 26), .load false 1 (.t 25), none, 15⟩,
   ⟨(some 7), .mv (.t 26), none, 31⟩] false)
 (.seq (.reg [⟨(some 27), .mv (.t 7), none, 0⟩,
   ⟨(some 28), .isnilf true (.t 27), none, 1⟩] false)
 (.cond (.t 28)
  (.seq (.reg [⟨(some 29), .mv (.t 7), none, 0⟩,
    ⟨(some 30), .mv (.t 0), none, 0⟩,
    ⟨(some 31), .load true 7 (.t 3), none, 0⟩,
    ⟨(some 32), .call (.t 29) [.t 30, .t 31], none, 7⟩,
    ⟨(some 4), .mv (.t 32), none, 15⟩] false)
  (.ret))
  (.skip))))
 (.seq (.reg [⟨(some 4), .mv (.c (.pv (.str [45, 45, 110, 111, 115, 116, 114, 105, 110, 103, 118, 97, 108, 45, 45]))), none, 0⟩] false)
 (.ret))))))⟩
def c63 : RFn := ⟨0, 15, [.cell 0 true 78],
 .seq (.reg [⟨(some 0), .alloc [.pv (.str []), .pv (.int .i64 (0)), .pv (.int .i64 (0)), .pv (.int .i64 (0)), .pv (.int .i64 (0)), .pv (.int .i64 (0)), .pv (.str []), .pv (.int .i64 (0)), .pv (.int .i64 (0)), .pv (.int .i64 (0)), .pv (.int .i64 (0)), .pv (.int .i64 (0)), .pv (.str []), .pv (.int .i64 (0)), .pv (.int .i64 (0)), .pv (.int .i64 (0)), .pv (.int .i64 (0)), .pv (.int .i64 (0)), .pv (.str []), .pv (.int .i64 (0)), .pv (.int .i64 (0)), .pv (.int .i64 (0)), .pv (.int .i64 (0)), .pv (.int .i64 (0)), .pv (.str []), .pv (.int .i64 (0)), .pv (.int .i64 (0)), .pv (.int .i64 (0)), .pv (.int .i64 (0)), .pv (.int .i64 (0)), .pv (.str []), .pv (.int .i64 (0)), .pv (.int .i64 (0)), .pv (.int .i64 (0)), .pv (.int .i64 (0)), .pv (.int .i64 (0)), .pv (.str []), .pv (.int .i64 (0)), .pv (.int .i64 (0)), .pv (.int .i64 (0)), .pv (.int .i64 (0)), .pv (.int .i64 (0)), .pv (.str []), .pv (.int .i64 (0)), .pv (.int .i64 (0)), .pv (.int .i64 (0)), .pv (.int .i64 (0)), .pv (.int .i64 (0)), .pv (.str []), .pv (.int .i64 (0)), .pv (.int .i64 (0)), .pv (.int .i64 (0)), .pv (.int .i64 (0)), .pv (.int .i64 (0)), .pv (.str []), .pv (.int .i64 (0)), .pv (.int .i64 (0)), .pv (.int .i64 (0)), .pv (.int .i64 (0)), .pv (.int .i64 (0)), .pv (.str []), .pv (.int .i64 (0)), .pv (.int .i64 (0)), .pv (.int .i64 (0)), .pv (.int .i64 (0)), .pv (.int .i64 (0)), .pv (.str []), .pv (.int .i64 (0)), .pv (.int .i64 (0)), .pv (.int .i64 (0)), .pv (.int .i64 (0)), .pv (.int .i64 (0)), .pv (.str []), .pv (.int .i64 (0)), .pv (.int .i64 (0)), .pv (.int .i64 (0)), .pv (.int .i64 (0)), .pv (.int .i64 (0))], none, 0⟩] false)
 (.seq (.reg [⟨(some 1), .build [.pv (.str []), .pv (.int .i64 (0)), .pv (.int .i64 (0)), .pv (.int .i64 (0)), .pv (.int .i64 (0)), .pv (.int .i64 (0))] [(0, 1, .c (.pv (.str [110, 117, 108, 108, 116, 121, 112, 101])))], none, 0⟩,
   ⟨(some 2), .build [.pv (.str []), .pv (.int .i64 (0)), .pv (.int .i64 (0)), .pv (.int .i64 (0)), .pv (.int .i64 (0)), .pv (.int .i64 (0))] [(0, 1, .c (.pv (.str [109, 97, 114, 107, 116, 121, 112, 101])))], none, 0⟩,
   ⟨(some 3), .build [.pv (.str []), .pv (.int .i64 (0)), .pv (.int .i64 (0)), .pv (.int .i64 (0)), .pv (.int .i64 (0)), .pv (.int .i64 (0))] [(0, 1, .c (.pv (.str [98, 111, 111, 108, 101, 97, 110, 116, 121, 112, 101]))), (2, 1, .c (.pv (.int .i64 (1))))], none, 0⟩,
   ⟨(some 4), .build [.pv (.str []), .pv (.int .i64 (0)), .pv (.int .i64 (0)), .pv (.int .i64 (0)), .pv (.int .i64 (0)), .pv (.int .i64 (0))] [(0, 1, .c (.pv (.str [105, 110, 116, 101, 103, 101, 114, 116, 121, 112, 101]))), (1, 1, .c (.pv (.int .i64 (-2147483648)))), (2, 1, .c (.pv (.int .i64 (2147483647))))], none, 0⟩,
   ⟨(some 5), .build [.pv (.str []), .pv (.int .i64 (0)), .pv (.int .i64 (0)), .pv (.int .i64 (0)), .pv (.int .i64 (0)), .pv (.int .i64 (0))] [(0, 1, .c (.pv (.str [114, 101, 97, 108, 116, 121, 112, 101]))), (1, 1, .c (.pv (.int .i64 (-2147483648)))), (2, 1, .c (.pv (.int .i64 (2147483648))))], none, 0⟩,
   ⟨(some 6), .build [.pv (.str []), .pv (.int .i64 (0)), .pv (.int .i64 (0)), .pv (.int .i64 (0)), .pv (.int .i64 (0)), .pv (.int .i64 (0))] [(0, 1, .c (.pv (.str [110, 97, 109, 101, 116, 121, 112, 101]))), (4, 1, .c (.pv (.int .i64 (100))))], none, 0⟩,
   ⟨(some 7), .build [.pv (.str []), .pv (.int .i64 (0)), .pv (.int .i64 (0)), .pv (.int .i64 (0)), .pv (.int .i64 (0)), .pv (.int .i64 (0))] [(0, 1, .c (.pv (.str [115, 116, 114, 105, 110, 103, 116, 121, 112, 101]))), (5, 1, .c (.pv (.int .i64 (1))))], none, 0⟩,
   ⟨(some 8), .build [.pv (.str []), .pv (.int .i64 (0)), .pv (.int .i64 (0)), .pv (.int .i64 (0)), .pv (.int .i64 (0)), .pv (.int .i64 (0))] [(0, 1, .c (.pv (.str [97, 114, 114, 97, 121, 116, 121, 112, 101]))), (5, 1, .c (.pv (.int .i64 (2))))], none, 0⟩,
   ⟨(some 9), .build [.pv (.str []), .pv (.int .i64 (0)), .pv (.int .i64 (0)), .pv (.int .i64 (0)), .pv (.int .i64 (0)), .pv (.int .i64 (0))] [(0, 1, .c (.pv (.str [112, 97, 99, 107, 101, 100, 97, 114, 114, 97, 121, 116, 121, 112, 101]))), (5, 1, .c (.pv (.int .i64 (2))))], none, 0⟩,
   ⟨(some 10), .build [.pv (.str []), .pv (.int .i64 (0)), .pv (.int .i64 (0)), .pv (.int .i64 (0)), .pv (.int .i64 (0)), .pv (.int .i64 (0))] [(0, 1, .c (.pv (.str [100, 105, 99, 116, 116, 121, 112, 101]))), (5, 1, .c (.pv (.int .i64 (3))))], none, 0⟩,
   ⟨(some 11), .build [.pv (.str []), .pv (.int .i64 (0)), .pv (.int .i64 (0)), .pv (.int .i64 (0)), .pv (.int .i64 (0)), .pv (.int .i64 (0))] [(0, 1, .c (.pv (.str [111, 112, 101, 114, 97, 116, 111, 114, 116, 121, 112, 101]))), (3, 1, .c (.pv (.int .i64 (1)))), (4, 1, .c (.pv (.int .i64 (100))))], none, 0⟩,
   ⟨(some 12), .build [.pv (.str []), .pv (.int .i64 (0)), .pv (.int .i64 (0)), .pv (.int .i64 (0)), .pv (.int .i64 (0)), .pv (.int .i64 (0))] [(0, 1, .c (.pv (.str [102, 105, 108, 101, 116, 121, 112, 101]))), (5, 1, .c (.pv (.int .i64 (3))))], none, 0⟩,
   ⟨(some 13), .build [.pv (.str []), .pv (.int .i64 (0)), .pv (.int .i64 (0)), .pv (.int .i64 (0)), .pv (.int .i64 (0)), .pv (.int .i64 (0))] [(0, 1, .c (.pv (.str [115, 97, 118, 101, 116, 121, 112, 101]))), (1, 1, .c (.pv (.int .i64 (1)))), (2, 1, .c (.pv (.int .i64 (9223372036854775807))))], none, 0⟩,
   ⟨(some 14), .build [.pv (.str []), .pv (.int .i64 (0)), .pv (.int .i64 (0)), .pv (.int .i64 (0)), .pv (.int .i64 (0)), .pv (.int .i64 (0)), .pv (.str []), .pv (.int .i64 (0)), .pv (.int .i64 (0)), .pv (.int .i64 (0)), .pv (.int .i64 (0)), .pv (.int .i64 (0)), .pv (.str []), .pv (.int .i64 (0)), .pv (.int .i64 (0)), .pv (.int .i64 (0)), .pv (.int .i64 (0)), .pv (.int .i64 (0)), .pv (.str []), .pv (.int .i64 (0)), .pv (.int .i64 (0)), .pv (.int .i64 (0)), .pv (.int .i64 (0)), .pv (.int .i64 (0)), .pv (.str []), .pv (.int .i64 (0)), .pv (.int .i64 (0)), .pv (.int .i64 (0)), .pv (.int .i64 (0)), .pv (.int .i64 (0)), .pv (.str []), .pv (.int .i64 (0)), .pv (.int .i64 (0)), .pv (.int .i64 (0)), .pv (.int .i64 (0)), .pv (.int .i64 (0)), .pv (.str []), .pv (.int .i64 (0)), .pv (.int .i64 (0)), .pv (.int .i64 (0)), .pv (.int .i64 (0)), .pv (.int .i64 (0)), .pv (.str []), .pv (.int .i64 (0)), .pv (.int .i64 (0)), .pv (.int .i64 (0)), .pv (.int .i64 (0)), .pv (.int .i64 (0)), .pv (.str []), .pv (.int .i64 (0)), .pv (.int .i64 (0)), .pv (.int .i64 (0)), .pv (.int .i64 (0)), .pv (.int .i64 (0)), .pv (.str []), .pv (.int .i64 (0)), .pv (.int .i64 (0)), .pv (.int .i64 (0)), .pv (.int .i64 (0)), .pv (.int .i64 (0)), .pv (.str []), .pv (.int .i64 (0)), .pv (.int .i64 (0)), .pv (.int .i64 (0)), .pv (.int .i64 (0)), .pv (.int .i64 (0)), .pv (.str []), .pv (.int .i64 (0)), .pv (.int .i64 (0)), .pv (.int .i64 (0)), .pv (.int .i64 (0)), .pv (.int .i64 (0)), .pv (.str []), .pv (.int .i64 (0)), .pv (.int .i64 (0)), .pv (.int .i64 (0)), .pv (.int .i64 (0)), .pv (.int .i64 (0))] [(0, 6, .t 1), (6, 6, .t 2), (12, 6, .t 3), (18, 6, .t 4), (24, 6, .t 5), (30, 6, .t 6), (36, 6, .t 7), (42, 6, .t 8), (48, 6, .t 9), (54, 6, .t 10), (60, 6, .t 11), (66, 6, .t 12), (72, 6, .t 13)], none, 8191⟩,
   ⟨none, .store 78 (.t 0) (.t 14), none, 16383⟩] false)
 (.ret))⟩
def c64 : RFn := ⟨2, 17, [.tmp 4],
 .seq (.reg [⟨(some 2), .box 6 (.t 0), none, 0⟩,
   ⟨(some 3), .box 7 (.t 1), none, 0⟩,
   ⟨(some 4), .mv (.c (.pv (.bool false))), none, 0⟩] false)
 (.seq (.reg [⟨(some 5), .faddr (.t 3) 2, none, 0⟩,
   ⟨(some 6), .load false 1 (.t 5), none, 1⟩,
   ⟨(some 7), .faddr (.t 2) 1, none, 0⟩,
   ⟨(some 8), .load false 1 (.t 7), none, 4⟩,
   ⟨(some 9), .bin .geq (.t 6) (.t 8), none, 15⟩,
   ⟨(some 10), .mv (.t 9), none, 31⟩,
   ⟨(some 11), .faddr (.t 3) 2, (some (10, true)), 63⟩,
   ⟨(some 12), .load false 1 (.t 11), (some (10, true)), 127⟩,
   ⟨(some 13), .faddr (.t 2) 2, (some (10, true)), 63⟩,
   ⟨(some 14), .load false 1 (.t 13), (some (10, true)), 319⟩,
   ⟨(some 15), .bin .leq (.t 12) (.t 14), (some (10, true)), 1023⟩,
   ⟨(some 16), .pick (.t 10) (.t 15) (.c (.pv (.bool false))), none, 2047⟩,
   ⟨(some 4), .mv (.t 16), none, 4095⟩] false)
 (.ret))⟩
def c65 : RFn := ⟨2, 19, [.tmp 4],
 .seq (.reg [⟨(some 2), .box 6 (.t 0), none, 0⟩,
   ⟨(some 3), .box 7 (.t 1), none, 0⟩,
   ⟨(some 4), .mv (.c (.pv (.bool false))), none, 0⟩] false)
 (.seq (.reg [⟨(some 5), .faddr (.t 3) 3, none, 0⟩,
   ⟨(some 6), .load false 1 (.t 5), none, 1⟩,
   ⟨(some 7), .strlen (.t 6), none, 3⟩,
   ⟨(some 8), .faddr (.t 2) 3, none, 0⟩,
   ⟨(some 9), .load false 1 (.t 8), none, 8⟩,
   ⟨(some 10), .bin .geq (.t 7) (.t 9), none, 31⟩,
   ⟨(some 11), .mv (.t 10), none, 63⟩,
   ⟨(some 12), .faddr (.t 3) 3, (some (11, true)), 127⟩,
   ⟨(some 13), .load false 1 (.t 12), (some (11, true)), 255⟩,
   ⟨(some 14), .strlen (.t 13), (some (11, true)), 511⟩,
   ⟨(some 15), .faddr (.t 2) 4, (some (11, true)), 127⟩,
   ⟨(some 16), .load false 1 (.t 15), (some (11, true)), 1151⟩,
   ⟨(some 17), .bin .leq (.t 14) (.t 16), (some (11, true)), 4095⟩,
   ⟨(some 18), .pick (.t 11) (.t 17) (.c (.pv (.bool false))), none, 8191⟩,
   ⟨(some 4), .mv (.t 18), none, 16383⟩] false)
 (.ret))⟩
def c66 : RFn := ⟨2, 57, [.tmp 4],
 .seq (.reg [⟨(some 2), .box 6 (.t 0), none, 0⟩,
   ⟨(some 3), .box 7 (.t 1), none, 0⟩,
   ⟨(some 4), .mv (.c (.pv (.bool false))), none, 0⟩] false)
 (.seq (.seq (.reg [⟨(some 6), .faddr (.t 2) 5, none, 0⟩,
   ⟨(some 7), .load false 1 (.t 6), none, 1⟩,
   ⟨(some 8), .bin .eql (.t 7) (.c (.pv (.int .i64 (0)))), none, 3⟩] false)
 (.cond (.t 8)
  (.seq (.reg [⟨(some 9), .faddr (.t 3) 4, none, 0⟩,
    ⟨(some 10), .load false 1 (.t 9), none, 1⟩,
    ⟨(some 11), .bin .eql (.t 10) (.c (.pv (.int .i64 (0)))), none, 3⟩,
    ⟨(some 12), .mv (.t 11), none, 7⟩,
    ⟨(some 13), .faddr (.t 3) 5, (some (12, true)), 15⟩,
    ⟨(some 14), .load false 1 (.t 13), (some (12, true)), 31⟩,
    ⟨(some 15), .bin .eql (.t 14) (.c (.pv (.int .i64 (0)))), (some (12, true)), 63⟩,
    ⟨(some 16), .pick (.t 12) (.t 15) (.c (.pv (.bool false))), none, 127⟩,
    ⟨(some 17), .mv (.t 16), none, 255⟩,
    ⟨(some 18), .faddr (.t 3) 6, (some (17, true)), 511⟩,
    ⟨(some 19), .load false 1 (.t 18), (some (17, true)), 1023⟩,
    ⟨(some 20), .bin .eql (.t 19) (.c (.pv (.int .i64 (0)))), (some (17, true)), 2047⟩,
    ⟨(some 21), .pick (.t 17) (.t 20) (.c (.pv (.bool false))), none, 4095⟩,
    ⟨(some 4), .mv (.t 21), none, 8191⟩] false)
  (.ret))
  (.skip)))
 (.seq (.reg [⟨(some 22), .load true 6 (.t 2), none, 0⟩,
   ⟨(some 23), .call (.f 78) [.t 22], none, 1⟩,
   ⟨(some 5), .mv (.t 23), none, 3⟩] false)
 (.seq (.reg [⟨(some 24), .faddr (.t 3) 4, none, 0⟩,
   ⟨(some 25), .load false 1 (.t 24), none, 1⟩,
   ⟨(some 26), .bin .geq (.t 25) (.c (.pv (.int .i64 (0)))), none, 3⟩,
   ⟨(some 27), .mv (.t 26), none, 7⟩,
   ⟨(some 28), .faddr (.t 3) 4, (some (27, true)), 15⟩,
   ⟨(some 29), .load false 1 (.t 28), (some (27, true)), 31⟩,
   ⟨(some 30), .bin .leq (.t 29) (.c (.pv (.int .i64 (20000)))), (some (27, true)), 63⟩,
   ⟨(some 31), .pick (.t 27) (.t 30) (.c (.pv (.bool false))), none, 127⟩,
   ⟨(some 32), .mv (.t 31), none, 255⟩,
   ⟨(some 33), .faddr (.t 3) 5, (some (32, true)), 511⟩,
   ⟨(some 34), .load false 1 (.t 33), (some (32, true)), 1023⟩,
   ⟨(some 35), .bin .geq (.t 34) (.c (.pv (.int .i64 (0)))), (some (32, true)), 2047⟩,
   ⟨(some 36), .pick (.t 32) (.t 35) (.c (.pv (.bool false))), none, 4095⟩,
   ⟨(some 37), .mv (.t 36), none, 8191⟩,
   ⟨(some 38), .faddr (.t 3) 6, (some (37, true)), 16383⟩,
   ⟨(some 39), .load false 1 (.t 38), (some (37, true)), 32767⟩,
   ⟨(some 40), .bin .geq (.t 39) (.c (.pv (.int .i64 (0)))), (some (37, true)), 65535⟩,
   ⟨(some 41), .pick (.t 37) (.t 40) (.c (.pv (.bool false))), none, 131071⟩,
   ⟨(some 42), .mv (.t 41), none, 262143⟩,
   ⟨(some 43), .faddr (.t 3) 5, (some (42, true)), 524287⟩,
   ⟨(some 44), .load false 1 (.t 43), (some (42, true)), 1048575⟩,
   ⟨(some 45), .mv (.t 5), (some (42, true)), 524287⟩,
   ⟨(some 46), .bin .leq (.t 44) (.t 45), (some (42, true)), 4194303⟩,
   ⟨(some 47), .pick (.t 42) (.t 46) (.c (.pv (.bool false))), none, 8388607⟩,
   ⟨(some 48), .mv (.t 47), none, 16777215⟩,
   ⟨(some 49), .faddr (.t 3) 6, (some (48, true)), 33554431⟩,
   ⟨(some 50), .load false 1 (.t 49), (some (48, true)), 67108863⟩,
   ⟨(some 51), .mv (.t 5), (some (48, true)), 33554431⟩,
   ⟨(some 52), .faddr (.t 3) 5, (some (48, true)), 33554431⟩,
   ⟨(some 53), .load false 1 (.t 52), (some (48, true)), 301989887⟩,
   ⟨(some 54), .bin .sub (.t 51) (.t 53), (some (48, true)), 973078527⟩,
   ⟨(some 55), .bin .leq (.t 50) (.t 54), (some (48, true)), 2147483647⟩,
   ⟨(some 56), .pick (.t 48) (.t 55) (.c (.pv (.bool false))), none, 4294967295⟩,
   ⟨(some 4), .mv (.t 56), none, 8589934591⟩] false)
 (.ret))))⟩
def c67 : RFn := ⟨1, 16, [.tmp 2, .tmp 3],
 .seq (.reg [⟨(some 1), .box 7 (.t 0), none, 0⟩,
   ⟨(some 2), .mv (.c (.pv (.int .i64 (0)))), none, 0⟩,
   ⟨(some 3), .mv (.c (.pv (.int .i64 (0)))), none, 2⟩] false)
 (.seq (.reg [⟨(some 7), .load true 7 (.t 1), none, 0⟩,
   ⟨(some 8), .call (.f 79) [.t 7], none, 1⟩,
   ⟨(some 6), .mv (.t 8), none, 3⟩,
   ⟨(some 9), .extract (.t 6) 0, none, 7⟩,
   ⟨(some 10), .extract (.t 6) 1, none, 7⟩,
   ⟨(some 4), .alloc [.pv (.int .i64 (0)), .pv (.bool false), .pv (.int .i64 (0)), .pv (.str []), .pv (.int .i64 (0)), .pv (.int .i64 (0)), .pv (.int .i64 (0))], none, 0⟩,
   ⟨none, .store 7 (.t 4) (.t 9), none, 47⟩,
   ⟨(some 5), .mv (.t 10), none, 127⟩] false)
 (.seq (.seq (.reg [⟨(some 11), .mv (.t 5), none, 0⟩,
   ⟨(some 12), .bin .neq (.t 11) (.c (.pv (.int .i64 (0)))), none, 1⟩] false)
 (.cond (.t 12)
  (.seq (.reg [⟨(some 13), .mv (.t 5), none, 0⟩,
    ⟨(some 2), .mv (.c (.pv (.int .i64 (0)))), none, 0⟩,
    ⟨(some 3), .mv (.t 13), none, 3⟩] false)
  (.ret))
  (.skip)))
 (.seq (.reg [⟨(some 14), .load true 7 (.t 4), none, 0⟩,
   ⟨(some 15), .call (.f 80) [.t 14], none, 1⟩,
   ⟨(some 2), .mv (.t 15), none, 3⟩,
   ⟨(some 3), .mv (.c (.pv (.int .i64 (0)))), none, 7⟩] false)
 (.ret))))⟩
def c68 : RFn := ⟨1, 8, [.cell 2 true 7, .tmp 3],
 .seq (.reg [⟨(some 2), .alloc [.pv (.int .i64 (0)), .pv (.bool false), .pv (.int .i64 (0)), .pv (.str []), .pv (.int .i64 (0)), .pv (.int .i64 (0)), .pv (.int .i64 (0))], none, 0⟩,
   ⟨(some 3), .mv (.c (.pv (.int .i64 (0)))), none, 0⟩] false)
 (.seq (.reg [⟨(some 4), .mv (.t 0), none, 0⟩,
   ⟨(some 5), .call (.f 81) [.t 4, .f 82], none, 1⟩,
   ⟨(some 6), .extract (.t 5) 0, none, 3⟩,
   ⟨(some 7), .extract (.t 5) 1, none, 3⟩,
   ⟨none, .store 7 (.t 2) (.t 6), none, 15⟩,
   ⟨(some 3), .mv (.t 7), none, 31⟩] false)
 (.ret))⟩
def c69 : RFn := ⟨2, 7, [.tmp 4],
 .seq (.reg [⟨(some 3), .box 7 (.t 1), none, 0⟩,
   ⟨(some 4), .mv (.c (.pv (.str []))), none, 0⟩] false)
 (.seq (.reg [⟨(some 5), .faddr (.t 3) 3, none, 0⟩,
   ⟨(some 6), .load false 1 (.t 5), none, 1⟩,
   ⟨(some 4), .mv (.t 6), none, 3⟩] false)
 (.ret))⟩
def c70 : RFn := ⟨2, 9, [.tmp 4],
 .seq (.reg [⟨(some 3), .box 7 (.t 1), none, 0⟩,
   ⟨(some 4), .mv (.c (.pv (.str []))), none, 0⟩] false)
 (.seq (.reg [⟨(some 5), .faddr (.t 3) 2, none, 0⟩,
   ⟨(some 6), .load false 1 (.t 5), none, 1⟩,
   ⟨(some 7), .bin .eql (.t 6) (.c (.pv (.int .i64 (1)))), none, 3⟩,
   ⟨(some 8), .call (.f 71) [.t 7], none, 7⟩,
   ⟨(some 4), .mv (.t 8), none, 15⟩] false)
 (.ret))⟩
def c71 : RFn := ⟨1, 5, [.tmp 2],
 .seq (.reg [⟨(some 2), .mv (.c (.pv (.str []))), none, 0⟩] false)
 (.seq (.reg [⟨(some 3), .mv (.t 0), none, 0⟩,
   ⟨(some 4), .call (.f 83) [.t 3], none, 1⟩,
   ⟨(some 2), .mv (.t 4), none, 3⟩] false)
 (.ret))⟩
def c72 : RFn := ⟨2, 8, [.tmp 4],
 .seq (.reg [⟨(some 3), .box 7 (.t 1), none, 0⟩,
   ⟨(some 4), .mv (.c (.pv (.str []))), none, 0⟩] false)
 (.seq (.reg [⟨(some 5), .faddr (.t 3) 2, none, 0⟩,
   ⟨(some 6), .load false 1 (.t 5), none, 1⟩,
   ⟨(some 7), .call (.f 73) [.t 6], none, 3⟩,
   ⟨(some 4), .mv (.t 7), none, 7⟩] false)
 (.ret))⟩
def c73 : RFn := ⟨1, 5, [.tmp 2],
 .seq (.reg [⟨(some 2), .mv (.c (.pv (.str []))), none, 0⟩] false)
 (.seq (.reg [⟨(some 3), .mv (.t 0), none, 0⟩,
   ⟨(some 4), .call (.f 84) [.t 3], none, 1⟩,
   ⟨(some 2), .mv (.t 4), none, 3⟩] false)
 (.ret))⟩
def c74 : RFn := ⟨2, 8, [.tmp 4],
 .seq (.reg [⟨(some 3), .box 7 (.t 1), none, 0⟩,
   ⟨(some 4), .mv (.c (.pv (.str []))), none, 0⟩] false)
 (.seq (.reg [⟨(some 5), .faddr (.t 3) 2, none, 0⟩,
   ⟨(some 6), .load false 1 (.t 5), none, 1⟩,
   ⟨(some 7), .call (.f 75) [.t 6], none, 3⟩,
   ⟨(some 4), .mv (.t 7), none, 7⟩] false)
 (.ret))⟩
def c75 : RFn := ⟨1, 11, [.tmp 2],
 .seq (.reg [⟨(some 2), .mv (.c (.pv (.str []))), none, 0⟩] false)
 (.seq (.reg [⟨(some 6), .mv (.t 0), none, 0⟩,
   ⟨(some 7), .call (.f 85) [.t 6], none, 1⟩,
   ⟨(some 5), .mv (.t 7), none, 3⟩,
   ⟨(some 8), .extract (.t 5) 0, none, 7⟩,
   ⟨(some 9), .extract (.t 5) 1, none, 7⟩,
   ⟨(some 3), .mv (.t 8), none, 15⟩,
   ⟨(some 4), .mv (.t 9), none, 63⟩] false)
 (.seq (.reg [⟨(some 10), .mv (.t 3), none, 0⟩,
   ⟨(some 2), .mv (.t 10), none, 1⟩] false)
 (.ret)))⟩
def c76 : RFn := ⟨2, 14, [.tmp 4],
 .seq (.reg [⟨(some 3), .box 7 (.t 1), none, 0⟩,
   ⟨(some 4), .mv (.c (.pv (.str []))), none, 0⟩] false)
 (.seq (.reg [⟨(some 8), .mv (.t 0), none, 0⟩,
   ⟨(some 9), .load true 7 (.t 3), none, 0⟩,
   ⟨(some 10), .call (.f 77) [.t 8, .t 9], none, 3⟩,
   ⟨(some 7), .mv (.t 10), none, 7⟩,
   ⟨(some 11), .extract (.t 7) 0, none, 15⟩,
   ⟨(some 12), .extract (.t 7) 1, none, 15⟩,
   ⟨(some 5), .mv (.t 11), none, 31⟩,
   ⟨(some 6), .mv (.t 12), none, 127⟩] false)
 (.seq (.reg [⟨(some 13), .mv (.t 5), none, 0⟩,
   ⟨(some 4), .mv (.t 13), none, 1⟩] false)
 (.ret)))⟩
def c77 : RFn := ⟨2, 29, [.tmp 4, .tmp 5],
 .seq (.reg [⟨(some 3), .box 7 (.t 1), none, 0⟩,
   ⟨(some 4), .mv (.c (.pv (.str []))), none, 0⟩,
   ⟨(some 5), .mv (.c (.pv (.int .i64 (0)))), none, 2⟩] false)
 (.seq (.reg [⟨(some 9), .mv (.t 0), none, 0⟩,
   ⟨(some 10), .load true 7 (.t 3), none, 0⟩,
   ⟨(some 11), .bsl 1 1 [.pv (.int .i64 (0))] [(0, .c (.pv (.int .i64 (6))))], none, 0⟩,
   ⟨(some 12), .call (.f 30) [.t 9, .t 10, .t 11], none, 7⟩,
   ⟨(some 8), .mv (.t 12), none, 15⟩,
   ⟨(some 13), .extract (.t 8) 0, none, 31⟩,
   ⟨(some 14), .extract (.t 8) 1, none, 31⟩,
   ⟨(some 6), .alloc [.emp 7, .pv (.int .i64 (0)), .pv (.bool false), .pv (.int .i64 (0)), .pv (.str []), .pv (.int .i64 (0)), .pv (.int .i64 (0)), .pv (.int .i64 (0))], none, 0⟩,
   ⟨none, .store 8 (.t 6) (.t 13), none, 191⟩,
   ⟨(some 7), .mv (.t 14), none, 511⟩] false)
 (.seq (.seq (.reg [⟨(some 15), .mv (.t 7), none, 0⟩,
   ⟨(some 16), .bin .neq (.t 15) (.c (.pv (.int .i64 (0)))), none, 1⟩] false)
 (.cond (.t 16)
  (.seq (.reg [⟨(some 17), .mv (.t 7), none, 0⟩,
    ⟨(some 4), .mv (.c (.pv (.str []))), none, 0⟩,
    ⟨(some 5), .mv (.t 17), none, 3⟩] false)
  (.ret))
  (.skip)))
 (.seq (.reg [⟨(some 18), .load true 8 (.t 6), none, 0⟩,
   ⟨(some 19), .call (.f 31) [.t 18], none, 1⟩,
   ⟨(some 20), .field false 1 1 (.t 19), none, 3⟩,
   ⟨(some 21), .faddr (.t 3) 5, none, 0⟩,
   ⟨(some 22), .load false 1 (.t 21), none, 8⟩,
   ⟨(some 23), .faddr (.t 3) 5, none, 0⟩,
   ⟨(some 24), .load false 1 (.t 23), none, 32⟩,
   ⟨(some 25), .faddr (.t 3) 6, none, 0⟩,
   ⟨(some 26), .load false 1 (.t 25), none, 128⟩,
   ⟨(some 27), .bin .add (.t 24) (.t 26), none, 480⟩,
   ⟨(some 28), .sslice (.t 20) (some (.t 22)) (some (.t 27)), none, 1023⟩,
   ⟨(some 4), .mv (.t 28), none, 2047⟩,
   ⟨(some 5), .mv (.c (.pv (.int .i64 (0)))), none, 4095⟩] true)
 (.ret))))⟩
def c78 : RFn := ⟨1, 7, [.tmp 2],
 .seq (.reg [⟨(some 1), .box 6 (.t 0), none, 0⟩,
   ⟨(some 2), .mv (.c (.pv (.int .i64 (0)))), none, 0⟩] false)
 (.seq (.reg [⟨(some 3), .build [.pv (.int .i64 (0)), .pv (.int .i64 (0)), .pv (.int .i64 (0)), .pv (.int .i64 (0))] [(0, 1, .c (.pv (.int .i64 (0)))), (1, 1, .c (.pv (.int .i64 (1000)))), (2, 1, .c (.pv (.int .i64 (1000)))), (3, 1, .c (.pv (.int .i64 (0))))], none, 0⟩,
   ⟨(some 4), .faddr (.t 1) 5, none, 0⟩,
   ⟨(some 5), .load false 1 (.t 4), none, 2⟩,
   ⟨(some 6), .index false 4 1 (.t 3) (.t 5), none, 7⟩,
   ⟨(some 2), .mv (.t 6), none, 15⟩] false)
 (.ret))⟩
def c79 : RFn := ⟨1, 22, [.cell 2 true 7, .tmp 3],
 .seq (.reg [⟨(some 1), .box 7 (.t 0), none, 0⟩,
   ⟨(some 2), .alloc [.pv (.int .i64 (0)), .pv (.bool false), .pv (.int .i64 (0)), .pv (.str []), .pv (.int .i64 (0)), .pv (.int .i64 (0)), .pv (.int .i64 (0))], none, 0⟩,
   ⟨(some 3), .mv (.c (.pv (.int .i64 (0)))), none, 0⟩] false)
 (.seq (.seq (.reg [⟨(some 5), .load true 7 (.t 1), none, 0⟩,
   ⟨(some 6), .call (.f 52) [.t 5], none, 1⟩,
   ⟨(some 4), .mv (.t 6), none, 3⟩] false)
 (.seq (.reg [⟨(some 7), .mv (.t 4), none, 0⟩,
   ⟨(some 8), .bin .neq (.t 7) (.c (.pv (.int .i64 (0)))), none, 1⟩] false)
 (.cond (.t 8)
  (.seq (.reg [⟨(some 9), .build [.pv (.int .i64 (0)), .pv (.bool false), .pv (.int .i64 (0)), .pv (.str []), .pv (.int .i64 (0)), .pv (.int .i64 (0)), .pv (.int .i64 (0))] [], none, 0⟩,
    ⟨(some 10), .mv (.t 4), none, 0⟩,
    ⟨none, .store 7 (.t 2) (.t 9), none, 1⟩,
    ⟨(some 3), .mv (.t 10), none, 7⟩] false)
  (.ret))
  (.skip))))
 (.seq (.seq (.reg [⟨(some 11), .faddr (.t 1) 0, none, 0⟩,
   ⟨(some 12), .load false 1 (.t 11), none, 1⟩,
   ⟨(some 13), .bin .neq (.t 12) (.c (.pv (.int .i64 (3)))), none, 3⟩,
   ⟨(some 14), .mv (.t 13), none, 7⟩,
   ⟨(some 15), .faddr (.t 1) 0, (some (14, true)), 15⟩,
   ⟨(some 16), .load false 1 (.t 15), (some (14, true)), 31⟩,
   ⟨(some 17), .bin .neq (.t 16) (.c (.pv (.int .i64 (4)))), (some (14, true)), 63⟩,
   ⟨(some 18), .pick (.t 14) (.t 17) (.c (.pv (.bool false))), none, 127⟩] false)
 (.cond (.t 18)
  (.seq (.reg [⟨(some 19), .build [.pv (.int .i64 (0)), .pv (.bool false), .pv (.int .i64 (0)), .pv (.str []), .pv (.int .i64 (0)), .pv (.int .i64 (0)), .pv (.int .i64 (0))] [], none, 0⟩,
    ⟨none, .store 7 (.t 2) (.t 19), none, 1⟩,
    ⟨(some 3), .mv (.c (.pv (.int .i64 (22)))), none, 3⟩] false)
  (.ret))
  (.skip)))
 (.seq (.reg [⟨(some 20), .load true 7 (.t 1), none, 0⟩,
   ⟨(some 21), .build [.pv (.int .i64 (0)), .pv (.bool false), .pv (.int .i64 (0)), .pv (.str []), .pv (.int .i64 (0)), .pv (.int .i64 (0)), .pv (.int .i64 (0))] [(0, 7, .t 20)], none, 1⟩,
   ⟨none, .store 7 (.t 2) (.t 21), none, 3⟩,
   ⟨(some 3), .mv (.c (.pv (.int .i64 (0)))), none, 7⟩] false)
 (.ret))))⟩
def c80 : RFn := ⟨1, 14, [.tmp 2],
 .seq (.reg [⟨(some 1), .box 7 (.t 0), none, 0⟩,
   ⟨(some 2), .mv (.c (.pv (.int .i64 (0)))), none, 0⟩] false)
 (.seq (.seq (.reg [⟨(some 3), .faddr (.t 1) 0, none, 0⟩,
   ⟨(some 4), .faddr (.t 3) 0, none, 1⟩,
   ⟨(some 5), .load false 1 (.t 4), none, 3⟩,
   ⟨(some 6), .bin .eql (.t 5) (.c (.pv (.int .i64 (3)))), none, 7⟩] false)
 (.cond (.t 6)
  (.seq (.reg [⟨(some 7), .faddr (.t 1) 0, none, 0⟩,
    ⟨(some 8), .faddr (.t 7) 2, none, 1⟩,
    ⟨(some 9), .load false 1 (.t 8), none, 3⟩,
    ⟨(some 10), .bin .mul (.t 9) (.c (.pv (.int .i64 (65536)))), none, 7⟩,
    ⟨(some 2), .mv (.t 10), none, 15⟩] false)
  (.ret))
  (.skip)))
 (.seq (.reg [⟨(some 11), .faddr (.t 1) 0, none, 0⟩,
   ⟨(some 12), .faddr (.t 11) 2, none, 1⟩,
   ⟨(some 13), .load false 1 (.t 12), none, 3⟩,
   ⟨(some 2), .mv (.t 13), none, 7⟩] false)
 (.ret)))⟩
def c81 : RFn := ⟨2, 15, [.cell 4 true 7, .tmp 5],
 .seq (.reg [⟨(some 4), .alloc [.pv (.int .i64 (0)), .pv (.bool false), .pv (.int .i64 (0)), .pv (.str []), .pv (.int .i64 (0)), .pv (.int .i64 (0)), .pv (.int .i64 (0))], none, 0⟩,
   ⟨(some 5), .mv (.c (.pv (.int .i64 (0)))), none, 0⟩] false)
 (.seq (.reg [⟨(some 7), .mv (.t 1), none, 0⟩,
   ⟨(some 8), .mv (.t 0), none, 0⟩,
   ⟨(some 9), .call (.t 7) [.t 8], none, 3⟩,
   ⟨(some 6), .alloc [.pv (.int .i64 (0)), .pv (.bool false), .pv (.int .i64 (0)), .pv (.str []), .pv (.int .i64 (0)), .pv (.int .i64 (0)), .pv (.int .i64 (0))], none, 0⟩,
   ⟨none, .store 7 (.t 6) (.t 9), none, 15⟩] false)
 (.seq (.seq (.reg [⟨(some 10), .load true 7 (.t 6), none, 0⟩,
   ⟨(some 11), .call (.f 52) [.t 10], none, 1⟩,
   ⟨(some 12), .bin .neq (.t 11) (.c (.pv (.int .i64 (0)))), none, 3⟩] false)
 (.cond (.t 12)
  (.seq (.reg [⟨(some 13), .build [.pv (.int .i64 (0)), .pv (.bool false), .pv (.int .i64 (0)), .pv (.str []), .pv (.int .i64 (0)), .pv (.int .i64 (0)), .pv (.int .i64 (0))] [], none, 0⟩,
    ⟨none, .store 7 (.t 4) (.t 13), none, 1⟩,
    ⟨(some 5), .mv (.c (.pv (.int .i64 (2)))), none, 3⟩] false)
  (.ret))
  (.skip)))
 (.seq (.reg [⟨(some 14), .load true 7 (.t 6), none, 0⟩,
   ⟨none, .store 7 (.t 4) (.t 14), none, 1⟩,
   ⟨(some 5), .mv (.c (.pv (.int .i64 (0)))), none, 3⟩] false)
 (.ret))))⟩
def c82 : RFn := ⟨1, 5, [.cell 2 true 7],
 .seq (.reg [⟨(some 2), .alloc [.pv (.int .i64 (0)), .pv (.bool false), .pv (.int .i64 (0)), .pv (.str []), .pv (.int .i64 (0)), .pv (.int .i64 (0)), .pv (.int .i64 (0))], none, 0⟩] false)
 (.seq (.reg [⟨(some 3), .mv (.t 0), none, 0⟩,
   ⟨(some 4), .build [.pv (.int .i64 (0)), .pv (.bool false), .pv (.int .i64 (0)), .pv (.str []), .pv (.int .i64 (0)), .pv (.int .i64 (0)), .pv (.int .i64 (0))] [(0, 1, .c (.pv (.int .i64 (3)))), (2, 1, .t 3)], none, 1⟩,
   ⟨none, .store 7 (.t 2) (.t 4), none, 3⟩] false)
 (.ret))⟩
def c83 : RFn := ⟨1, 4, [.tmp 2],
 .seq (.reg [⟨(some 2), .mv (.c (.pv (.str []))), none, 0⟩] false)
 (.seq (.seq (.reg [⟨(some 3), .mv (.t 0), none, 0⟩] false)
 (.cond (.t 3)
  (.seq (.reg [⟨(some 2), .mv (.c (.pv (.str [116, 114, 117, 101]))), none, 0⟩] false)
  (.ret))
  (.skip)))
 (.seq (.reg [⟨(some 2), .mv (.c (.pv (.str [102, 97, 108, 115, 101]))), none, 0⟩] false)
 (.ret)))⟩
def c84 : RFn := ⟨1, 5, [.tmp 2],
 .seq (.reg [⟨(some 2), .mv (.c (.pv (.str []))), none, 0⟩] false)
 (.seq (.reg [⟨(some 3), .mv (.t 0), none, 0⟩,
   ⟨(some 4), .call (.f 86) [.t 3, .c (.pv (.int .i64 (10)))], none, 1⟩,
   ⟨(some 2), .mv (.t 4), none, 3⟩] false)
 (.ret))⟩
def c85 : RFn := ⟨1, 10, [.tmp 2, .tmp 3],
 .seq (.reg [⟨(some 1), .box 1 (.t 0), none, 0⟩,
   ⟨(some 2), .mv (.c (.pv (.str []))), none, 0⟩,
   ⟨(some 3), .mv (.c (.pv (.int .i64 (0)))), none, 2⟩] false)
 (.seq (.reg [⟨(some 4), .mkf (.func 88) [] [.t 1], none, 0⟩,
   ⟨(some 5), .load false 1 (.t 1), none, 0⟩,
   ⟨(some 6), .bsl 1 1 [.pv (.int .i64 (0))] [(0, .t 5)], none, 2⟩,
   ⟨(some 7), .call (.f 87) [.t 4, .t 6], none, 7⟩,
   ⟨(some 8), .extract (.t 7) 0, none, 15⟩,
   ⟨(some 9), .extract (.t 7) 1, none, 15⟩,
   ⟨(some 2), .mv (.t 8), none, 63⟩,
   ⟨(some 3), .mv (.t 9), none, 127⟩] false)
 (.ret))⟩
def c87 : RFn := ⟨2, 39, [.tmp 4, .tmp 5],
 .seq (.reg [⟨(some 4), .mv (.c (.pv (.str []))), none, 0⟩,
   ⟨(some 5), .mv (.c (.pv (.int .i64 (0)))), none, 1⟩] false)
 (.seq (.seq (.reg [⟨(some 10), .mv (.t 1), none, 0⟩,
   ⟨(some 11), .slen (.t 10), none, 1⟩,
   ⟨(some 12), .mv (.c (.pv (.int .i64 (0)))), none, 0⟩] false)
 (.block 0
  (.loop [0, 4, 10, 11, 12]
   (.seq (.reg [⟨(some 13), .bin .lss (.t 12) (.t 11), none, 0⟩] false)
   (.seq (.cond (.t 13)
    (.skip)
    (.exit 0))
   (.seq (.block 1
    (.seq (.reg [⟨(some 14), .iaddr 1 (.t 10) (.t 12), none, 0⟩,
      ⟨(some 15), .load false 1 (.t 14), none, 1⟩,
      ⟨(some 7), .mv (.t 15), none, 3⟩] false)
    (.seq (.reg [⟨(some 16), .mv (.t 7), none, 0⟩,
      ⟨(some 17), .call (.f 96) [.t 16], none, 1⟩,
      ⟨(some 18), .not (.t 17), none, 3⟩] false)
    (.cond (.t 18)
     (.seq (.reg [⟨(some 19), .mv (.t 4), none, 0⟩,
       ⟨(some 4), .mv (.t 19), none, 1⟩,
       ⟨(some 5), .mv (.c (.pv (.int .i64 (2)))), none, 3⟩] false)
     (.ret))
     (.skip)))))
   (.reg [⟨(some 20), .bin .add (.t 12) (.c (.pv (.int .i64 (1)))), none, 0⟩,
     ⟨(some 12), .mv (.t 20), none, 1⟩] false)))))))
 (.seq (.reg [⟨(some 22), .mv (.t 0), none, 0⟩,
   ⟨(some 23), .call (.t 22) [], none, 1⟩,
   ⟨(some 21), .mv (.t 23), none, 3⟩,
   ⟨(some 24), .extract (.t 21) 0, none, 7⟩,
   ⟨(some 25), .extract (.t 21) 1, none, 7⟩,
   ⟨(some 26), .extract (.t 21) 2, none, 7⟩,
   ⟨(some 8), .mv (.t 24), none, 15⟩,
   ⟨(some 9), .mv (.t 25), none, 95⟩,
   ⟨(some 5), .mv (.t 26), none, 255⟩] false)
 (.seq (.seq (.reg [⟨(some 27), .mv (.t 5), none, 0⟩,
   ⟨(some 28), .bin .eql (.t 27) (.c (.pv (.int .i64 (0)))), none, 1⟩,
   ⟨(some 29), .mv (.t 28), none, 3⟩,
   ⟨(some 30), .mv (.t 9), (some (29, true)), 7⟩,
   ⟨(some 31), .call (.f 96) [.t 30], (some (29, true)), 15⟩,
   ⟨(some 32), .not (.t 31), (some (29, true)), 31⟩,
   ⟨(some 33), .pick (.t 29) (.t 32) (.c (.pv (.bool false))), none, 63⟩] false)
 (.cond (.t 33)
  (.reg [⟨(some 5), .mv (.c (.pv (.int .i64 (25)))), none, 0⟩] false)
  (.skip)))
 (.seq (.seq (.reg [⟨(some 34), .mv (.t 5), none, 0⟩,
   ⟨(some 35), .bin .neq (.t 34) (.c (.pv (.int .i64 (0)))), none, 1⟩] false)
 (.cond (.t 35)
  (.seq (.reg [⟨(some 36), .mv (.t 4), none, 0⟩,
    ⟨(some 37), .mv (.t 5), none, 0⟩,
    ⟨(some 4), .mv (.t 36), none, 1⟩,
    ⟨(some 5), .mv (.t 37), none, 7⟩] false)
  (.ret))
  (.skip)))
 (.seq (.reg [⟨(some 38), .mv (.t 8), none, 0⟩,
   ⟨(some 4), .mv (.t 38), none, 1⟩,
   ⟨(some 5), .mv (.c (.pv (.int .i64 (0)))), none, 3⟩] false)
 (.ret))))))⟩
def c90 : RFn := ⟨1, 4, [.tmp 2],
 .seq (.reg [⟨(some 1), .box 1 (.t 0), none, 0⟩,
   ⟨(some 2), .mv (.c (.pv .nilFunc)), none, 0⟩] false)
 (.seq (.reg [⟨(some 3), .mkf (.func 98) [] [.t 1], none, 0⟩,
   ⟨(some 2), .mv (.t 3), none, 1⟩] false)
 (.ret))⟩
def c92 : RFn := ⟨1, 15, [.tmp 2],
 .seq (.reg [⟨(some 2), .mv (.c (.pv (.str []))), none, 0⟩] false)
 (.seq (.seq (.reg [⟨(some 3), .mv (.t 0), none, 0⟩,
   ⟨(some 4), .bin .lss (.t 3) (.c (.pv (.int .i64 (10)))), none, 1⟩] false)
 (.cond (.t 4)
  (.seq (.reg [⟨(some 5), .mv (.t 0), none, 0⟩,
    ⟨(some 6), .mv (.t 0), none, 0⟩,
    ⟨(some 7), .bin .add (.t 6) (.c (.pv (.int .i64 (1)))), none, 2⟩,
    ⟨(some 8), .sslice (.c (.pv (.str [48, 49, 50, 51, 52, 53, 54, 55, 56, 57, 97, 98, 99, 100, 101, 102, 103, 104, 105, 106, 107, 108, 109, 110, 111, 112, 113, 114, 115, 116, 117, 118, 119, 120, 121, 122]))) (some (.t 5)) (some (.t 7)), none, 7⟩,
    ⟨(some 2), .mv (.t 8), none, 15⟩] false)
  (.ret))
  (.skip)))
 (.seq (.reg [⟨(some 9), .mv (.t 0), none, 0⟩,
   ⟨(some 10), .bin .mul (.t 9) (.c (.pv (.int .i64 (2)))), none, 1⟩,
   ⟨(some 11), .mv (.t 0), none, 0⟩,
   ⟨(some 12), .bin .mul (.t 11) (.c (.pv (.int .i64 (2)))), none, 4⟩,
   ⟨(some 13), .bin .add (.t 12) (.c (.pv (.int .i64 (2)))), none, 12⟩,
   ⟨(some 14), .sslice (.c (.pv (.str [48, 48, 48, 49, 48, 50, 48, 51, 48, 52, 48, 53, 48, 54, 48, 55, 48, 56, 48, 57, 49, 48, 49, 49, 49, 50, 49, 51, 49, 52, 49, 53, 49, 54, 49, 55, 49, 56, 49, 57, 50, 48, 50, 49, 50, 50, 50, 51, 50, 52, 50, 53, 50, 54, 50, 55, 50, 56, 50, 57, 51, 48, 51, 49, 51, 50, 51, 51, 51, 52, 51, 53, 51, 54, 51, 55, 51, 56, 51, 57, 52, 48, 52, 49, 52, 50, 52, 51, 52, 52, 52, 53, 52, 54, 52, 55, 52, 56, 52, 57, 53, 48, 53, 49, 53, 50, 53, 51, 53, 52, 53, 53, 53, 54, 53, 55, 53, 56, 53, 57, 54, 48, 54, 49, 54, 50, 54, 51, 54, 52, 54, 53, 54, 54, 54, 55, 54, 56, 54, 57, 55, 48, 55, 49, 55, 50, 55, 51, 55, 52, 55, 53, 55, 54, 55, 55, 55, 56, 55, 57, 56, 48, 56, 49, 56, 50, 56, 51, 56, 52, 56, 53, 56, 54, 56, 55, 56, 56, 56, 57, 57, 48, 57, 49, 57, 50, 57, 51, 57, 52, 57, 53, 57, 54, 57, 55, 57, 56, 57, 57]))) (some (.t 10)) (some (.t 13)), none, 31⟩,
   ⟨(some 2), .mv (.t 14), none, 63⟩] false)
 (.ret)))⟩
def c93 : RFn := ⟨1, 15, [.tmp 2],
 .seq (.reg [⟨(some 2), .mv (.c (.pv (.int .i64 (0)))), none, 0⟩] false)
 (.seq (.reg [⟨(some 4), .mv (.t 0), none, 0⟩,
   ⟨(some 5), .call (.f 100) [.t 4], none, 1⟩,
   ⟨(some 6), .call (.f 99) [.t 5], none, 3⟩,
   ⟨(some 3), .mv (.t 6), none, 7⟩] false)
 (.seq (.reg [⟨(some 7), .mv (.t 3), none, 0⟩,
   ⟨(some 8), .mv (.t 0), none, 0⟩,
   ⟨(some 9), .mv (.t 3), none, 0⟩,
   ⟨(some 10), .paddr 20 1 (.g 0) (.t 9), none, 4⟩,
   ⟨(some 11), .load false 1 (.t 10), none, 12⟩,
   ⟨(some 12), .bin .geq (.t 8) (.t 11), none, 30⟩,
   ⟨(some 13), .call (.f 101) [.t 12], none, 62⟩,
   ⟨(some 14), .bin .add (.t 7) (.t 13), none, 127⟩,
   ⟨(some 2), .mv (.t 14), none, 255⟩] false)
 (.ret)))⟩
end Go.Ab.Fn
