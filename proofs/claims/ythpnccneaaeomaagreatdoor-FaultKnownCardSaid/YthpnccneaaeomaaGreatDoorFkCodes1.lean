/- The code of functions of the program, printed by a program. Under: nothing. -/
import Derived.Test.YthpnccneaaeomaaGreatDoorFkCodes0
namespace Go.Ab.Fk
open Go.Ab
def c64 : RFn := ⟨2, 19, [.tmp 4],
 .seq (.reg [⟨(some 4), .mv (.c (.pv (.int .i64 (0)))), none, 0⟩] false)
 (.seq (.seq (.reg [⟨(some 6), .mv (.t 0), none, 0⟩,
   ⟨(some 7), .slen (.t 6), none, 1⟩,
   ⟨(some 8), .mv (.c (.pv (.int .i64 (0)))), none, 0⟩] false)
 (.block 0
  (.loop [0, 1, 7, 8]
   (.seq (.reg [⟨(some 9), .bin .lss (.t 8) (.t 7), none, 0⟩] false)
   (.seq (.cond (.t 9)
    (.skip)
    (.exit 0))
   (.seq (.block 1
    (.seq (.reg [⟨(some 10), .mv (.t 8), none, 0⟩,
      ⟨(some 5), .mv (.t 10), none, 1⟩] false)
    (.seq (.reg [⟨(some 11), .mv (.t 1), none, 0⟩,
      ⟨(some 12), .mv (.t 0), none, 0⟩,
      ⟨(some 13), .mv (.t 5), none, 0⟩,
      ⟨(some 14), .iaddr 1 (.t 12) (.t 13), none, 6⟩,
      ⟨(some 15), .load false 1 (.t 14), none, 14⟩,
      ⟨(some 16), .bin .eql (.t 11) (.t 15), none, 31⟩] false)
    (.cond (.t 16)
     (.seq (.reg [⟨(some 17), .mv (.t 5), none, 0⟩,
       ⟨(some 4), .mv (.t 17), none, 1⟩] false)
     (.ret))
     (.skip)))))
   (.reg [⟨(some 18), .bin .add (.t 8) (.c (.pv (.int .i64 (1)))), none, 0⟩,
     ⟨(some 8), .mv (.t 18), none, 1⟩] false)))))))
 (.seq (.reg [⟨(some 4), .mv (.c (.pv (.int .i64 (-1)))), none, 0⟩] false)
 (.ret)))⟩
def c65 : RFn := ⟨2, 7, [.tmp 4],
 .seq (.reg [⟨(some 3), .box 7 (.t 1), none, 0⟩,
   ⟨(some 4), .mv (.c (.pv (.str []))), none, 0⟩] false)
 (.seq (.reg [⟨(some 5), .faddr (.t 3) 3, none, 0⟩,
   ⟨(some 6), .load false 1 (.t 5), none, 1⟩,
   ⟨(some 4), .mv (.t 6), none, 3⟩] false)
 (.ret))⟩
def c66 : RFn := ⟨2, 9, [.tmp 4],
 .seq (.reg [⟨(some 3), .box 7 (.t 1), none, 0⟩,
   ⟨(some 4), .mv (.c (.pv (.str []))), none, 0⟩] false)
 (.seq (.reg [⟨(some 5), .faddr (.t 3) 2, none, 0⟩,
   ⟨(some 6), .load false 1 (.t 5), none, 1⟩,
   ⟨(some 7), .bin .eql (.t 6) (.c (.pv (.int .i64 (1)))), none, 3⟩,
   ⟨(some 8), .call (.f 67) [.t 7], none, 7⟩,
   ⟨(some 4), .mv (.t 8), none, 15⟩] false)
 (.ret))⟩
def c67 : RFn := ⟨1, 5, [.tmp 2],
 .seq (.reg [⟨(some 2), .mv (.c (.pv (.str []))), none, 0⟩] false)
 (.seq (.reg [⟨(some 3), .mv (.t 0), none, 0⟩,
   ⟨(some 4), .call (.f 77) [.t 3], none, 1⟩,
   ⟨(some 2), .mv (.t 4), none, 3⟩] false)
 (.ret))⟩
def c68 : RFn := ⟨2, 8, [.tmp 4],
 .seq (.reg [⟨(some 3), .box 7 (.t 1), none, 0⟩,
   ⟨(some 4), .mv (.c (.pv (.str []))), none, 0⟩] false)
 (.seq (.reg [⟨(some 5), .faddr (.t 3) 2, none, 0⟩,
   ⟨(some 6), .load false 1 (.t 5), none, 1⟩,
   ⟨(some 7), .call (.f 69) [.t 6], none, 3⟩,
   ⟨(some 4), .mv (.t 7), none, 7⟩] false)
 (.ret))⟩
def c69 : RFn := ⟨1, 5, [.tmp 2],
 .seq (.reg [⟨(some 2), .mv (.c (.pv (.str []))), none, 0⟩] false)
 (.seq (.reg [⟨(some 3), .mv (.t 0), none, 0⟩,
   ⟨(some 4), .call (.f 78) [.t 3], none, 1⟩,
   ⟨(some 2), .mv (.t 4), none, 3⟩] false)
 (.ret))⟩
def c70 : RFn := ⟨2, 8, [.tmp 4],
 .seq (.reg [⟨(some 3), .box 7 (.t 1), none, 0⟩,
   ⟨(some 4), .mv (.c (.pv (.str []))), none, 0⟩] false)
 (.seq (.reg [⟨(some 5), .faddr (.t 3) 2, none, 0⟩,
   ⟨(some 6), .load false 1 (.t 5), none, 1⟩,
   ⟨(some 7), .call (.f 71) [.t 6], none, 3⟩,
   ⟨(some 4), .mv (.t 7), none, 7⟩] false)
 (.ret))⟩
def c71 : RFn := ⟨1, 11, [.tmp 2],
 .seq (.reg [⟨(some 2), .mv (.c (.pv (.str []))), none, 0⟩] false)
 (.seq (.reg [⟨(some 6), .mv (.t 0), none, 0⟩,
   ⟨(some 7), .call (.f 79) [.t 6], none, 1⟩,
   ⟨(some 5), .mv (.t 7), none, 3⟩,
   ⟨(some 8), .extract (.t 5) 0, none, 7⟩,
   ⟨(some 9), .extract (.t 5) 1, none, 7⟩,
   ⟨(some 3), .mv (.t 8), none, 15⟩,
   ⟨(some 4), .mv (.t 9), none, 63⟩] false)
 (.seq (.reg [⟨(some 10), .mv (.t 3), none, 0⟩,
   ⟨(some 2), .mv (.t 10), none, 1⟩] false)
 (.ret)))⟩
def c72 : RFn := ⟨2, 14, [.tmp 4],
 .seq (.reg [⟨(some 3), .box 7 (.t 1), none, 0⟩,
   ⟨(some 4), .mv (.c (.pv (.str []))), none, 0⟩] false)
 (.seq (.reg [⟨(some 8), .mv (.t 0), none, 0⟩,
   ⟨(some 9), .load true 7 (.t 3), none, 0⟩,
   ⟨(some 10), .call (.f 73) [.t 8, .t 9], none, 3⟩,
   ⟨(some 7), .mv (.t 10), none, 7⟩,
   ⟨(some 11), .extract (.t 7) 0, none, 15⟩,
   ⟨(some 12), .extract (.t 7) 1, none, 15⟩,
   ⟨(some 5), .mv (.t 11), none, 31⟩,
   ⟨(some 6), .mv (.t 12), none, 127⟩] false)
 (.seq (.reg [⟨(some 13), .mv (.t 5), none, 0⟩,
   ⟨(some 4), .mv (.t 13), none, 1⟩] false)
 (.ret)))⟩
def c73 : RFn := ⟨2, 29, [.tmp 4, .tmp 5],
 .seq (.reg [⟨(some 3), .box 7 (.t 1), none, 0⟩,
   ⟨(some 4), .mv (.c (.pv (.str []))), none, 0⟩,
   ⟨(some 5), .mv (.c (.pv (.int .i64 (0)))), none, 2⟩] false)
 (.seq (.reg [⟨(some 9), .mv (.t 0), none, 0⟩,
   ⟨(some 10), .load true 7 (.t 3), none, 0⟩,
   ⟨(some 11), .bsl 1 1 [.pv (.int .i64 (0))] [(0, .c (.pv (.int .i64 (6))))], none, 0⟩,
   ⟨(some 12), .call (.f 39) [.t 9, .t 10, .t 11], none, 7⟩,
   ⟨(some 8), .mv (.t 12), none, 15⟩,
   ⟨(some 13), .extract (.t 8) 0, none, 31⟩,
   ⟨(some 14), .extract (.t 8) 1, none, 31⟩,
   ⟨(some 6), .alloc [.emp 7, .pv (.int .i64 (0)), .pv (.bool false), .pv (.int .i64 (0)), .pv (.str []), .pv (.int .i64 (0)), .pv (.int .i64 (0)), .pv (.int .i64 (0))], none, 0⟩,
   ⟨none, .store 8 (.t 6) (.t 13), none, 191⟩,
   ⟨(some 7), .mv (.t 14), none, 511⟩] false)
 (.seq (.seq (.reg [⟨(some 15), .mv (.t 7), none, 0⟩,
   ⟨(some 16), .bin .neq (.t 15) (.c (.pv (.int .i64 (0)))), none, 1⟩] false)
 (.cond (.t 16)
  (.seq (.reg [⟨(some 17), .mv (.t 7), none, 0⟩,
    ⟨(some 4), .mv (.c (.pv (.str []))), none, 0⟩,
    ⟨(some 5), .mv (.t 17), none, 3⟩] false)
  (.ret))
  (.skip)))
 (.seq (.reg [⟨(some 18), .load true 8 (.t 6), none, 0⟩,
   ⟨(some 19), .call (.f 40) [.t 18], none, 1⟩,
   ⟨(some 20), .field false 1 1 (.t 19), none, 3⟩,
   ⟨(some 21), .faddr (.t 3) 5, none, 0⟩,
   ⟨(some 22), .load false 1 (.t 21), none, 8⟩,
   ⟨(some 23), .faddr (.t 3) 5, none, 0⟩,
   ⟨(some 24), .load false 1 (.t 23), none, 32⟩,
   ⟨(some 25), .faddr (.t 3) 6, none, 0⟩,
   ⟨(some 26), .load false 1 (.t 25), none, 128⟩,
   ⟨(some 27), .bin .add (.t 24) (.t 26), none, 480⟩,
   ⟨(some 28), .sslice (.t 20) (some (.t 22)) (some (.t 27)), none, 1023⟩,
   ⟨(some 4), .mv (.t 28), none, 2047⟩,
   ⟨(some 5), .mv (.c (.pv (.int .i64 (0)))), none, 4095⟩] true)
 (.ret))))⟩
def c74 : RFn := ⟨1, 7, [.tmp 2],
 .seq (.reg [⟨(some 1), .box 6 (.t 0), none, 0⟩,
   ⟨(some 2), .mv (.c (.pv (.int .i64 (0)))), none, 0⟩] false)
 (.seq (.reg [⟨(some 3), .build [.pv (.int .i64 (0)), .pv (.int .i64 (0)), .pv (.int .i64 (0)), .pv (.int .i64 (0))] [(0, 1, .c (.pv (.int .i64 (0)))), (1, 1, .c (.pv (.int .i64 (1000)))), (2, 1, .c (.pv (.int .i64 (1000)))), (3, 1, .c (.pv (.int .i64 (0))))], none, 0⟩,
   ⟨(some 4), .faddr (.t 1) 5, none, 0⟩,
   ⟨(some 5), .load false 1 (.t 4), none, 2⟩,
   ⟨(some 6), .index false 4 1 (.t 3) (.t 5), none, 7⟩,
   ⟨(some 2), .mv (.t 6), none, 15⟩] false)
 (.ret))⟩
def c75 : RFn := ⟨1, 16, [.tmp 2, .tmp 3],
 .seq (.reg [⟨(some 1), .box 7 (.t 0), none, 0⟩,
   ⟨(some 2), .mv (.c (.pv (.int .i64 (0)))), none, 0⟩,
   ⟨(some 3), .mv (.c (.pv (.int .i64 (0)))), none, 2⟩] false)
 (.seq (.reg [⟨(some 7), .load true 7 (.t 1), none, 0⟩,
   ⟨(some 8), .call (.f 80) [.t 7], none, 1⟩,
   ⟨(some 6), .mv (.t 8), none, 3⟩,
   ⟨(some 9), .extract (.t 6) 0, none, 7⟩,
   ⟨(some 10), .extract (.t 6) 1, none, 7⟩,
   ⟨(some 4), .alloc [.pv (.int .i64 (0)), .pv (.bool false), .pv (.int .i64 (0)), .pv (.str []), .pv (.int .i64 (0)), .pv (.int .i64 (0)), .pv (.int .i64 (0))], none, 0⟩,
   ⟨none, .store 7 (.t 4) (.t 9), none, 47⟩,
   ⟨(some 5), .mv (.t 10), none, 127⟩] false)
 (.seq (.seq (.reg [⟨(some 11), .mv (.t 5), none, 0⟩,
   ⟨(some 12), .bin .neq (.t 11) (.c (.pv (.int .i64 (0)))), none, 1⟩] false)
 (.cond (.t 12)
  (.seq (.reg [⟨(some 13), .mv (.t 5), none, 0⟩,
    ⟨(some 2), .mv (.c (.pv (.int .i64 (0)))), none, 0⟩,
    ⟨(some 3), .mv (.t 13), none, 3⟩] false)
  (.ret))
  (.skip)))
 (.seq (.reg [⟨(some 14), .load true 7 (.t 4), none, 0⟩,
   ⟨(some 15), .call (.f 81) [.t 14], none, 1⟩,
   ⟨(some 2), .mv (.t 15), none, 3⟩,
   ⟨(some 3), .mv (.c (.pv (.int .i64 (0)))), none, 7⟩] false)
 (.ret))))⟩
def c76 : RFn := ⟨1, 8, [.cell 2 true 7, .tmp 3],
 .seq (.reg [⟨(some 2), .alloc [.pv (.int .i64 (0)), .pv (.bool false), .pv (.int .i64 (0)), .pv (.str []), .pv (.int .i64 (0)), .pv (.int .i64 (0)), .pv (.int .i64 (0))], none, 0⟩,
   ⟨(some 3), .mv (.c (.pv (.int .i64 (0)))), none, 0⟩] false)
 (.seq (.reg [⟨(some 4), .mv (.t 0), none, 0⟩,
   ⟨(some 5), .call (.f 82) [.t 4, .f 83], none, 1⟩,
   ⟨(some 6), .extract (.t 5) 0, none, 3⟩,
   ⟨(some 7), .extract (.t 5) 1, none, 3⟩,
   ⟨none, .store 7 (.t 2) (.t 6), none, 15⟩,
   ⟨(some 3), .mv (.t 7), none, 31⟩] false)
 (.ret))⟩
def c77 : RFn := ⟨1, 4, [.tmp 2],
 .seq (.reg [⟨(some 2), .mv (.c (.pv (.str []))), none, 0⟩] false)
 (.seq (.seq (.reg [⟨(some 3), .mv (.t 0), none, 0⟩] false)
 (.cond (.t 3)
  (.seq (.reg [⟨(some 2), .mv (.c (.pv (.str [116, 114, 117, 101]))), none, 0⟩] false)
  (.ret))
  (.skip)))
 (.seq (.reg [⟨(some 2), .mv (.c (.pv (.str [102, 97, 108, 115, 101]))), none, 0⟩] false)
 (.ret)))⟩
def c78 : RFn := ⟨1, 5, [.tmp 2],
 .seq (.reg [⟨(some 2), .mv (.c (.pv (.str []))), none, 0⟩] false)
 (.seq (.reg [⟨(some 3), .mv (.t 0), none, 0⟩,
   ⟨(some 4), .call (.f 84) [.t 3, .c (.pv (.int .i64 (10)))], none, 1⟩,
   ⟨(some 2), .mv (.t 4), none, 3⟩] false)
 (.ret))⟩
def c79 : RFn := ⟨1, 10, [.tmp 2, .tmp 3],
 .seq (.reg [⟨(some 1), .box 1 (.t 0), none, 0⟩,
   ⟨(some 2), .mv (.c (.pv (.str []))), none, 0⟩,
   ⟨(some 3), .mv (.c (.pv (.int .i64 (0)))), none, 2⟩] false)
 (.seq (.reg [⟨(some 4), .mkf (.func 86) [] [.t 1], none, 0⟩,
   ⟨(some 5), .load false 1 (.t 1), none, 0⟩,
   ⟨(some 6), .bsl 1 1 [.pv (.int .i64 (0))] [(0, .t 5)], none, 2⟩,
   ⟨(some 7), .call (.f 85) [.t 4, .t 6], none, 7⟩,
   ⟨(some 8), .extract (.t 7) 0, none, 15⟩,
   ⟨(some 9), .extract (.t 7) 1, none, 15⟩,
   ⟨(some 2), .mv (.t 8), none, 63⟩,
   ⟨(some 3), .mv (.t 9), none, 127⟩] false)
 (.ret))⟩
def c80 : RFn := ⟨1, 22, [.cell 2 true 7, .tmp 3],
 .seq (.reg [⟨(some 1), .box 7 (.t 0), none, 0⟩,
   ⟨(some 2), .alloc [.pv (.int .i64 (0)), .pv (.bool false), .pv (.int .i64 (0)), .pv (.str []), .pv (.int .i64 (0)), .pv (.int .i64 (0)), .pv (.int .i64 (0))], none, 0⟩,
   ⟨(some 3), .mv (.c (.pv (.int .i64 (0)))), none, 0⟩] false)
 (.seq (.seq (.reg [⟨(some 5), .load true 7 (.t 1), none, 0⟩,
   ⟨(some 6), .call (.f 46) [.t 5], none, 1⟩,
   ⟨(some 4), .mv (.t 6), none, 3⟩] false)
 (.seq (.reg [⟨(some 7), .mv (.t 4), none, 0⟩,
   ⟨(some 8), .bin .neq (.t 7) (.c (.pv (.int .i64 (0)))), none, 1⟩] false)
 (.cond (.t 8)
  (.seq (.reg [⟨(some 9), .build [.pv (.int .i64 (0)), .pv (.bool false), .pv (.int .i64 (0)), .pv (.str []), .pv (.int .i64 (0)), .pv (.int .i64 (0)), .pv (.int .i64 (0))] [], none, 0⟩,
    ⟨(some 10), .mv (.t 4), none, 0⟩,
    ⟨none, .store 7 (.t 2) (.t 9), none, 1⟩,
    ⟨(some 3), .mv (.t 10), none, 7⟩] false)
  (.ret))
  (.skip))))
 (.seq (.seq (.reg [⟨(some 11), .faddr (.t 1) 0, none, 0⟩,
   ⟨(some 12), .load false 1 (.t 11), none, 1⟩,
   ⟨(some 13), .bin .neq (.t 12) (.c (.pv (.int .i64 (3)))), none, 3⟩,
   ⟨(some 14), .mv (.t 13), none, 7⟩,
   ⟨(some 15), .faddr (.t 1) 0, (some (14, true)), 15⟩,
   ⟨(some 16), .load false 1 (.t 15), (some (14, true)), 31⟩,
   ⟨(some 17), .bin .neq (.t 16) (.c (.pv (.int .i64 (4)))), (some (14, true)), 63⟩,
   ⟨(some 18), .pick (.t 14) (.t 17) (.c (.pv (.bool false))), none, 127⟩] false)
 (.cond (.t 18)
  (.seq (.reg [⟨(some 19), .build [.pv (.int .i64 (0)), .pv (.bool false), .pv (.int .i64 (0)), .pv (.str []), .pv (.int .i64 (0)), .pv (.int .i64 (0)), .pv (.int .i64 (0))] [], none, 0⟩,
    ⟨none, .store 7 (.t 2) (.t 19), none, 1⟩,
    ⟨(some 3), .mv (.c (.pv (.int .i64 (22)))), none, 3⟩] false)
  (.ret))
  (.skip)))
 (.seq (.reg [⟨(some 20), .load true 7 (.t 1), none, 0⟩,
   ⟨(some 21), .build [.pv (.int .i64 (0)), .pv (.bool false), .pv (.int .i64 (0)), .pv (.str []), .pv (.int .i64 (0)), .pv (.int .i64 (0)), .pv (.int .i64 (0))] [(0, 7, .t 20)], none, 1⟩,
   ⟨none, .store 7 (.t 2) (.t 21), none, 3⟩,
   ⟨(some 3), .mv (.c (.pv (.int .i64 (0)))), none, 7⟩] false)
 (.ret))))⟩
def c81 : RFn := ⟨1, 14, [.tmp 2],
 .seq (.reg [⟨(some 1), .box 7 (.t 0), none, 0⟩,
   ⟨(some 2), .mv (.c (.pv (.int .i64 (0)))), none, 0⟩] false)
 (.seq (.seq (.reg [⟨(some 3), .faddr (.t 1) 0, none, 0⟩,
   ⟨(some 4), .faddr (.t 3) 0, none, 1⟩,
   ⟨(some 5), .load false 1 (.t 4), none, 3⟩,
   ⟨(some 6), .bin .eql (.t 5) (.c (.pv (.int .i64 (3)))), none, 7⟩] false)
 (.cond (.t 6)
  (.seq (.reg [⟨(some 7), .faddr (.t 1) 0, none, 0⟩,
    ⟨(some 8), .faddr (.t 7) 2, none, 1⟩,
    ⟨(some 9), .load false 1 (.t 8), none, 3⟩,
    ⟨(some 10), .bin .mul (.t 9) (.c (.pv (.int .i64 (65536)))), none, 7⟩,
    ⟨(some 2), .mv (.t 10), none, 15⟩] false)
  (.ret))
  (.skip)))
 (.seq (.reg [⟨(some 11), .faddr (.t 1) 0, none, 0⟩,
   ⟨(some 12), .faddr (.t 11) 2, none, 1⟩,
   ⟨(some 13), .load false 1 (.t 12), none, 3⟩,
   ⟨(some 2), .mv (.t 13), none, 7⟩] false)
 (.ret)))⟩
def c82 : RFn := ⟨2, 15, [.cell 4 true 7, .tmp 5],
 .seq (.reg [⟨(some 4), .alloc [.pv (.int .i64 (0)), .pv (.bool false), .pv (.int .i64 (0)), .pv (.str []), .pv (.int .i64 (0)), .pv (.int .i64 (0)), .pv (.int .i64 (0))], none, 0⟩,
   ⟨(some 5), .mv (.c (.pv (.int .i64 (0)))), none, 0⟩] false)
 (.seq (.reg [⟨(some 7), .mv (.t 1), none, 0⟩,
   ⟨(some 8), .mv (.t 0), none, 0⟩,
   ⟨(some 9), .call (.t 7) [.t 8], none, 3⟩,
   ⟨(some 6), .alloc [.pv (.int .i64 (0)), .pv (.bool false), .pv (.int .i64 (0)), .pv (.str []), .pv (.int .i64 (0)), .pv (.int .i64 (0)), .pv (.int .i64 (0))], none, 0⟩,
   ⟨none, .store 7 (.t 6) (.t 9), none, 15⟩] false)
 (.seq (.seq (.reg [⟨(some 10), .load true 7 (.t 6), none, 0⟩,
   ⟨(some 11), .call (.f 46) [.t 10], none, 1⟩,
   ⟨(some 12), .bin .neq (.t 11) (.c (.pv (.int .i64 (0)))), none, 3⟩] false)
 (.cond (.t 12)
  (.seq (.reg [⟨(some 13), .build [.pv (.int .i64 (0)), .pv (.bool false), .pv (.int .i64 (0)), .pv (.str []), .pv (.int .i64 (0)), .pv (.int .i64 (0)), .pv (.int .i64 (0))] [], none, 0⟩,
    ⟨none, .store 7 (.t 4) (.t 13), none, 1⟩,
    ⟨(some 5), .mv (.c (.pv (.int .i64 (2)))), none, 3⟩] false)
  (.ret))
  (.skip)))
 (.seq (.reg [⟨(some 14), .load true 7 (.t 6), none, 0⟩,
   ⟨none, .store 7 (.t 4) (.t 14), none, 1⟩,
   ⟨(some 5), .mv (.c (.pv (.int .i64 (0)))), none, 3⟩] false)
 (.ret))))⟩
def c83 : RFn := ⟨1, 5, [.cell 2 true 7],
 .seq (.reg [⟨(some 2), .alloc [.pv (.int .i64 (0)), .pv (.bool false), .pv (.int .i64 (0)), .pv (.str []), .pv (.int .i64 (0)), .pv (.int .i64 (0)), .pv (.int .i64 (0))], none, 0⟩] false)
 (.seq (.reg [⟨(some 3), .mv (.t 0), none, 0⟩,
   ⟨(some 4), .build [.pv (.int .i64 (0)), .pv (.bool false), .pv (.int .i64 (0)), .pv (.str []), .pv (.int .i64 (0)), .pv (.int .i64 (0)), .pv (.int .i64 (0))] [(0, 1, .c (.pv (.int .i64 (3)))), (2, 1, .t 3)], none, 1⟩,
   ⟨none, .store 7 (.t 2) (.t 4), none, 3⟩] false)
 (.ret))⟩
def c85 : RFn := ⟨2, 39, [.tmp 4, .tmp 5],
 .seq (.reg [⟨(some 4), .mv (.c (.pv (.str []))), none, 0⟩,
   ⟨(some 5), .mv (.c (.pv (.int .i64 (0)))), none, 1⟩] false)
 (.seq (.seq (.reg [⟨(some 10), .mv (.t 1), none, 0⟩,
   ⟨(some 11), .slen (.t 10), none, 1⟩,
   ⟨(some 12), .mv (.c (.pv (.int .i64 (0)))), none, 0⟩] false)
 (.block 0
  (.loop [0, 4, 10, 11, 12]
   (.seq (.reg [⟨(some 13), .bin .lss (.t 12) (.t 11), none, 0⟩] false)
   (.seq (.cond (.t 13)
    (.skip)
    (.exit 0))
   (.seq (.block 1
    (.seq (.reg [⟨(some 14), .iaddr 1 (.t 10) (.t 12), none, 0⟩,
      ⟨(some 15), .load false 1 (.t 14), none, 1⟩,
      ⟨(some 7), .mv (.t 15), none, 3⟩] false)
    (.seq (.reg [⟨(some 16), .mv (.t 7), none, 0⟩,
      ⟨(some 17), .call (.f 94) [.t 16], none, 1⟩,
      ⟨(some 18), .not (.t 17), none, 3⟩] false)
    (.cond (.t 18)
     (.seq (.reg [⟨(some 19), .mv (.t 4), none, 0⟩,
       ⟨(some 4), .mv (.t 19), none, 1⟩,
       ⟨(some 5), .mv (.c (.pv (.int .i64 (2)))), none, 3⟩] false)
     (.ret))
     (.skip)))))
   (.reg [⟨(some 20), .bin .add (.t 12) (.c (.pv (.int .i64 (1)))), none, 0⟩,
     ⟨(some 12), .mv (.t 20), none, 1⟩] false)))))))
 (.seq (.reg [⟨(some 22), .mv (.t 0), none, 0⟩,
   ⟨(some 23), .call (.t 22) [], none, 1⟩,
   ⟨(some 21), .mv (.t 23), none, 3⟩,
   ⟨(some 24), .extract (.t 21) 0, none, 7⟩,
   ⟨(some 25), .extract (.t 21) 1, none, 7⟩,
   ⟨(some 26), .extract (.t 21) 2, none, 7⟩,
   ⟨(some 8), .mv (.t 24), none, 15⟩,
   ⟨(some 9), .mv (.t 25), none, 95⟩,
   ⟨(some 5), .mv (.t 26), none, 255⟩] false)
 (.seq (.seq (.reg [⟨(some 27), .mv (.t 5), none, 0⟩,
   ⟨(some 28), .bin .eql (.t 27) (.c (.pv (.int .i64 (0)))), none, 1⟩,
   ⟨(some 29), .mv (.t 28), none, 3⟩,
   ⟨(some 30), .mv (.t 9), (some (29, true)), 7⟩,
   ⟨(some 31), .call (.f 94) [.t 30], (some (29, true)), 15⟩,
   ⟨(some 32), .not (.t 31), (some (29, true)), 31⟩,
   ⟨(some 33), .pick (.t 29) (.t 32) (.c (.pv (.bool false))), none, 63⟩] false)
 (.cond (.t 33)
  (.reg [⟨(some 5), .mv (.c (.pv (.int .i64 (25)))), none, 0⟩] false)
  (.skip)))
 (.seq (.seq (.reg [⟨(some 34), .mv (.t 5), none, 0⟩,
   ⟨(some 35), .bin .neq (.t 34) (.c (.pv (.int .i64 (0)))), none, 1⟩] false)
 (.cond (.t 35)
  (.seq (.reg [⟨(some 36), .mv (.t 4), none, 0⟩,
    ⟨(some 37), .mv (.t 5), none, 0⟩,
    ⟨(some 4), .mv (.t 36), none, 1⟩,
    ⟨(some 5), .mv (.t 37), none, 7⟩] false)
  (.ret))
  (.skip)))
 (.seq (.reg [⟨(some 38), .mv (.t 8), none, 0⟩,
   ⟨(some 4), .mv (.t 38), none, 1⟩,
   ⟨(some 5), .mv (.c (.pv (.int .i64 (0)))), none, 3⟩] false)
 (.ret))))))⟩
def c88 : RFn := ⟨1, 4, [.tmp 2],
 .seq (.reg [⟨(some 1), .box 1 (.t 0), none, 0⟩,
   ⟨(some 2), .mv (.c (.pv .nilFunc)), none, 0⟩] false)
 (.seq (.reg [⟨(some 3), .mkf (.func 96) [] [.t 1], none, 0⟩,
   ⟨(some 2), .mv (.t 3), none, 1⟩] false)
 (.ret))⟩
def c90 : RFn := ⟨1, 15, [.tmp 2],
 .seq (.reg [⟨(some 2), .mv (.c (.pv (.str []))), none, 0⟩] false)
 (.seq (.seq (.reg [⟨(some 3), .mv (.t 0), none, 0⟩,
   ⟨(some 4), .bin .lss (.t 3) (.c (.pv (.int .i64 (10)))), none, 1⟩] false)
 (.cond (.t 4)
  (.seq (.reg [⟨(some 5), .mv (.t 0), none, 0⟩,
    ⟨(some 6), .mv (.t 0), none, 0⟩,
    ⟨(some 7), .bin .add (.t 6) (.c (.pv (.int .i64 (1)))), none, 2⟩,
    ⟨(some 8), .sslice (.c (.pv (.str [48, 49, 50, 51, 52, 53, 54, 55, 56, 57, 97, 98, 99, 100, 101, 102, 103, 104, 105, 106, 107, 108, 109, 110, 111, 112, 113, 114, 115, 116, 117, 118, 119, 120, 121, 122]))) (some (.t 5)) (some (.t 7)), none, 7⟩,
    ⟨(some 2), .mv (.t 8), none, 15⟩] false)
  (.ret))
  (.skip)))
 (.seq (.reg [⟨(some 9), .mv (.t 0), none, 0⟩,
   ⟨(some 10), .bin .mul (.t 9) (.c (.pv (.int .i64 (2)))), none, 1⟩,
   ⟨(some 11), .mv (.t 0), none, 0⟩,
   ⟨(some 12), .bin .mul (.t 11) (.c (.pv (.int .i64 (2)))), none, 4⟩,
   ⟨(some 13), .bin .add (.t 12) (.c (.pv (.int .i64 (2)))), none, 12⟩,
   ⟨(some 14), .sslice (.c (.pv (.str [48, 48, 48, 49, 48, 50, 48, 51, 48, 52, 48, 53, 48, 54, 48, 55, 48, 56, 48, 57, 49, 48, 49, 49, 49, 50, 49, 51, 49, 52, 49, 53, 49, 54, 49, 55, 49, 56, 49, 57, 50, 48, 50, 49, 50, 50, 50, 51, 50, 52, 50, 53, 50, 54, 50, 55, 50, 56, 50, 57, 51, 48, 51, 49, 51, 50, 51, 51, 51, 52, 51, 53, 51, 54, 51, 55, 51, 56, 51, 57, 52, 48, 52, 49, 52, 50, 52, 51, 52, 52, 52, 53, 52, 54, 52, 55, 52, 56, 52, 57, 53, 48, 53, 49, 53, 50, 53, 51, 53, 52, 53, 53, 53, 54, 53, 55, 53, 56, 53, 57, 54, 48, 54, 49, 54, 50, 54, 51, 54, 52, 54, 53, 54, 54, 54, 55, 54, 56, 54, 57, 55, 48, 55, 49, 55, 50, 55, 51, 55, 52, 55, 53, 55, 54, 55, 55, 55, 56, 55, 57, 56, 48, 56, 49, 56, 50, 56, 51, 56, 52, 56, 53, 56, 54, 56, 55, 56, 56, 56, 57, 57, 48, 57, 49, 57, 50, 57, 51, 57, 52, 57, 53, 57, 54, 57, 55, 57, 56, 57, 57]))) (some (.t 10)) (some (.t 13)), none, 31⟩,
   ⟨(some 2), .mv (.t 14), none, 63⟩] false)
 (.ret)))⟩
def c91 : RFn := ⟨1, 15, [.tmp 2],
 .seq (.reg [⟨(some 2), .mv (.c (.pv (.int .i64 (0)))), none, 0⟩] false)
 (.seq (.reg [⟨(some 4), .mv (.t 0), none, 0⟩,
   ⟨(some 5), .call (.f 98) [.t 4], none, 1⟩,
   ⟨(some 6), .call (.f 97) [.t 5], none, 3⟩,
   ⟨(some 3), .mv (.t 6), none, 7⟩] false)
 (.seq (.reg [⟨(some 7), .mv (.t 3), none, 0⟩,
   ⟨(some 8), .mv (.t 0), none, 0⟩,
   ⟨(some 9), .mv (.t 3), none, 0⟩,
   ⟨(some 10), .paddr 20 1 (.g 0) (.t 9), none, 4⟩,
   ⟨(some 11), .load false 1 (.t 10), none, 12⟩,
   ⟨(some 12), .bin .geq (.t 8) (.t 11), none, 30⟩,
   ⟨(some 13), .call (.f 99) [.t 12], none, 62⟩,
   ⟨(some 14), .bin .add (.t 7) (.t 13), none, 127⟩,
   ⟨(some 2), .mv (.t 14), none, 255⟩] false)
 (.ret)))⟩
def c92 : RFn := ⟨2, 167, [],
 .seq (.reg [⟨(some 17), .mv (.t 0), none, 0⟩,
   ⟨(some 18), .slen (.t 17), none, 1⟩,
   ⟨(some 4), .mv (.t 18), none, 3⟩] false)
 (.seq (.block 0
  (.loop [0, 1, 4]
   (.seq (.seq (.reg [⟨(some 19), .mv (.t 4), none, 0⟩,
     ⟨(some 20), .bin .geq (.t 19) (.c (.pv (.int .i64 (8)))), none, 1⟩] false)
   (.cond (.t 20)
    (.skip)
    (.exit 0)))
   (.block 1
    (.seq (.reg [⟨(some 21), .mv (.t 1), none, 0⟩,
      ⟨(some 22), .bin .rem (.t 21) (.c (.pv (.int .u64 (100000000)))), none, 1⟩,
      ⟨(some 23), .conv .u32 (.t 22), none, 3⟩,
      ⟨(some 5), .mv (.t 23), none, 7⟩] false)
    (.seq (.reg [⟨(some 24), .mv (.t 1), none, 0⟩,
      ⟨(some 25), .bin .quo (.t 24) (.c (.pv (.int .u64 (100000000)))), none, 1⟩,
      ⟨(some 1), .mv (.t 25), none, 3⟩] false)
    (.seq (.reg [⟨(some 26), .mv (.t 5), none, 0⟩,
      ⟨(some 27), .bin .quo (.t 26) (.c (.pv (.int .u32 (10000)))), none, 1⟩,
      ⟨(some 28), .mv (.t 5), none, 0⟩,
      ⟨(some 29), .bin .rem (.t 28) (.c (.pv (.int .u32 (10000)))), none, 4⟩,
      ⟨(some 6), .mv (.t 27), none, 3⟩,
      ⟨(some 7), .mv (.t 29), none, 31⟩] false)
    (.seq (.reg [⟨(some 30), .mv (.t 7), none, 0⟩,
      ⟨(some 31), .bin .quo (.t 30) (.c (.pv (.int .u32 (100)))), none, 1⟩,
      ⟨(some 32), .bin .mul (.t 31) (.c (.pv (.int .u32 (2)))), none, 3⟩,
      ⟨(some 33), .mv (.t 7), none, 0⟩,
      ⟨(some 34), .bin .rem (.t 33) (.c (.pv (.int .u32 (100)))), none, 8⟩,
      ⟨(some 35), .bin .mul (.t 34) (.c (.pv (.int .u32 (2)))), none, 24⟩,
      ⟨(some 8), .mv (.t 32), none, 7⟩,
      ⟨(some 9), .mv (.t 35), none, 127⟩] false)
    (.seq (.reg [⟨(some 36), .mv (.t 6), none, 0⟩,
      ⟨(some 37), .bin .quo (.t 36) (.c (.pv (.int .u32 (100)))), none, 1⟩,
      ⟨(some 38), .bin .mul (.t 37) (.c (.pv (.int .u32 (2)))), none, 3⟩,
      ⟨(some 39), .mv (.t 6), none, 0⟩,
      ⟨(some 40), .bin .rem (.t 39) (.c (.pv (.int .u32 (100)))), none, 8⟩,
      ⟨(some 41), .bin .mul (.t 40) (.c (.pv (.int .u32 (2)))), none, 24⟩,
      ⟨(some 10), .mv (.t 38), none, 7⟩,
      ⟨(some 11), .mv (.t 41), none, 127⟩] false)
    (.seq (.reg [⟨(some 42), .mv (.t 0), none, 0⟩,
      ⟨(some 43), .mv (.t 4), none, 0⟩,
      ⟨(some 44), .bin .sub (.t 43) (.c (.pv (.int .i64 (1)))), none, 2⟩,
      ⟨(some 45), .mv (.t 0), none, 0⟩,
      ⟨(some 46), .mv (.t 4), none, 0⟩,
      ⟨(some 47), .bin .sub (.t 46) (.c (.pv (.int .i64 (2)))), none, 16⟩,
      ⟨(some 48), .mv (.t 9), none, 0⟩,
      ⟨(some 49), .bin .add (.t 48) (.c (.pv (.int .u32 (1)))), none, 64⟩,
      ⟨(some 50), .sindex (.c (.pv (.str [48, 48, 48, 49, 48, 50, 48, 51, 48, 52, 48, 53, 48, 54, 48, 55, 48, 56, 48, 57, 49, 48, 49, 49, 49, 50, 49, 51, 49, 52, 49, 53, 49, 54, 49, 55, 49, 56, 49, 57, 50, 48, 50, 49, 50, 50, 50, 51, 50, 52, 50, 53, 50, 54, 50, 55, 50, 56, 50, 57, 51, 48, 51, 49, 51, 50, 51, 51, 51, 52, 51, 53, 51, 54, 51, 55, 51, 56, 51, 57, 52, 48, 52, 49, 52, 50, 52, 51, 52, 52, 52, 53, 52, 54, 52, 55, 52, 56, 52, 57, 53, 48, 53, 49, 53, 50, 53, 51, 53, 52, 53, 53, 53, 54, 53, 55, 53, 56, 53, 57, 54, 48, 54, 49, 54, 50, 54, 51, 54, 52, 54, 53, 54, 54, 54, 55, 54, 56, 54, 57, 55, 48, 55, 49, 55, 50, 55, 51, 55, 52, 55, 53, 55, 54, 55, 55, 55, 56, 55, 57, 56, 48, 56, 49, 56, 50, 56, 51, 56, 52, 56, 53, 56, 54, 56, 55, 56, 56, 56, 57, 57, 48, 57, 49, 57, 50, 57, 51, 57, 52, 57, 53, 57, 54, 57, 55, 57, 56, 57, 57]))) (.t 49), none, 192⟩,
      ⟨(some 51), .mv (.t 9), none, 0⟩,
      ⟨(some 52), .sindex (.c (.pv (.str [48, 48, 48, 49, 48, 50, 48, 51, 48, 52, 48, 53, 48, 54, 48, 55, 48, 56, 48, 57, 49, 48, 49, 49, 49, 50, 49, 51, 49, 52, 49, 53, 49, 54, 49, 55, 49, 56, 49, 57, 50, 48, 50, 49, 50, 50, 50, 51, 50, 52, 50, 53, 50, 54, 50, 55, 50, 56, 50, 57, 51, 48, 51, 49, 51, 50, 51, 51, 51, 52, 51, 53, 51, 54, 51, 55, 51, 56, 51, 57, 52, 48, 52, 49, 52, 50, 52, 51, 52, 52, 52, 53, 52, 54, 52, 55, 52, 56, 52, 57, 53, 48, 53, 49, 53, 50, 53, 51, 53, 52, 53, 53, 53, 54, 53, 55, 53, 56, 53, 57, 54, 48, 54, 49, 54, 50, 54, 51, 54, 52, 54, 53, 54, 54, 54, 55, 54, 56, 54, 57, 55, 48, 55, 49, 55, 50, 55, 51, 55, 52, 55, 53, 55, 54, 55, 55, 55, 56, 55, 57, 56, 48, 56, 49, 56, 50, 56, 51, 56, 52, 56, 53, 56, 54, 56, 55, 56, 56, 56, 57, 57, 48, 57, 49, 57, 50, 57, 51, 57, 52, 57, 53, 57, 54, 57, 55, 57, 56, 57, 57]))) (.t 51), none, 512⟩,
      ⟨(some 53), .iaddr 1 (.t 42) (.t 44), none, 455⟩,
      ⟨none, .store 1 (.t 53) (.t 50), none, 2503⟩,
      ⟨(some 54), .iaddr 1 (.t 45) (.t 47), none, 8191⟩,
      ⟨none, .store 1 (.t 54) (.t 52), none, 16383⟩] true)
    (.seq (.reg [⟨(some 55), .mv (.t 0), none, 0⟩,
      ⟨(some 56), .mv (.t 4), none, 0⟩,
      ⟨(some 57), .bin .sub (.t 56) (.c (.pv (.int .i64 (3)))), none, 2⟩,
      ⟨(some 58), .mv (.t 0), none, 0⟩,
      ⟨(some 59), .mv (.t 4), none, 0⟩,
      ⟨(some 60), .bin .sub (.t 59) (.c (.pv (.int .i64 (4)))), none, 16⟩,
      ⟨(some 61), .mv (.t 8), none, 0⟩,
      ⟨(some 62), .bin .add (.t 61) (.c (.pv (.int .u32 (1)))), none, 64⟩,
      ⟨(some 63), .sindex (.c (.pv (.str [48, 48, 48, 49, 48, 50, 48, 51, 48, 52, 48, 53, 48, 54, 48, 55, 48, 56, 48, 57, 49, 48, 49, 49, 49, 50, 49, 51, 49, 52, 49, 53, 49, 54, 49, 55, 49, 56, 49, 57, 50, 48, 50, 49, 50, 50, 50, 51, 50, 52, 50, 53, 50, 54, 50, 55, 50, 56, 50, 57, 51, 48, 51, 49, 51, 50, 51, 51, 51, 52, 51, 53, 51, 54, 51, 55, 51, 56, 51, 57, 52, 48, 52, 49, 52, 50, 52, 51, 52, 52, 52, 53, 52, 54, 52, 55, 52, 56, 52, 57, 53, 48, 53, 49, 53, 50, 53, 51, 53, 52, 53, 53, 53, 54, 53, 55, 53, 56, 53, 57, 54, 48, 54, 49, 54, 50, 54, 51, 54, 52, 54, 53, 54, 54, 54, 55, 54, 56, 54, 57, 55, 48, 55, 49, 55, 50, 55, 51, 55, 52, 55, 53, 55, 54, 55, 55, 55, 56, 55, 57, 56, 48, 56, 49, 56, 50, 56, 51, 56, 52, 56, 53, 56, 54, 56, 55, 56, 56, 56, 57, 57, 48, 57, 49, 57, 50, 57, 51, 57, 52, 57, 53, 57, 54, 57, 55, 57, 56, 57, 57]))) (.t 62), none, 192⟩,
      ⟨(some 64), .mv (.t 8), none, 0⟩,
      ⟨(some 65), .sindex (.c (.pv (.str [48, 48, 48, 49, 48, 50, 48, 51, 48, 52, 48, 53, 48, 54, 48, 55, 48, 56, 48, 57, 49, 48, 49, 49, 49, 50, 49, 51, 49, 52, 49, 53, 49, 54, 49, 55, 49, 56, 49, 57, 50, 48, 50, 49, 50, 50, 50, 51, 50, 52, 50, 53, 50, 54, 50, 55, 50, 56, 50, 57, 51, 48, 51, 49, 51, 50, 51, 51, 51, 52, 51, 53, 51, 54, 51, 55, 51, 56, 51, 57, 52, 48, 52, 49, 52, 50, 52, 51, 52, 52, 52, 53, 52, 54, 52, 55, 52, 56, 52, 57, 53, 48, 53, 49, 53, 50, 53, 51, 53, 52, 53, 53, 53, 54, 53, 55, 53, 56, 53, 57, 54, 48, 54, 49, 54, 50, 54, 51, 54, 52, 54, 53, 54, 54, 54, 55, 54, 56, 54, 57, 55, 48, 55, 49, 55, 50, 55, 51, 55, 52, 55, 53, 55, 54, 55, 55, 55, 56, 55, 57, 56, 48, 56, 49, 56, 50, 56, 51, 56, 52, 56, 53, 56, 54, 56, 55, 56, 56, 56, 57, 57, 48, 57, 49, 57, 50, 57, 51, 57, 52, 57, 53, 57, 54, 57, 55, 57, 56, 57, 57]))) (.t 64), none, 512⟩,
      ⟨(some 66), .iaddr 1 (.t 55) (.t 57), none, 455⟩,
      ⟨none, .store 1 (.t 66) (.t 63), none, 2503⟩,
      ⟨(some 67), .iaddr 1 (.t 58) (.t 60), none, 8191⟩,
      ⟨none, .store 1 (.t 67) (.t 65), none, 16383⟩] true)
    (.seq (.reg [⟨(some 68), .mv (.t 0), none, 0⟩,
      ⟨(some 69), .mv (.t 4), none, 0⟩,
      ⟨(some 70), .bin .sub (.t 69) (.c (.pv (.int .i64 (5)))), none, 2⟩,
      ⟨(some 71), .mv (.t 0), none, 0⟩,
      ⟨(some 72), .mv (.t 4), none, 0⟩,
      ⟨(some 73), .bin .sub (.t 72) (.c (.pv (.int .i64 (6)))), none, 16⟩,
      ⟨(some 74), .mv (.t 11), none, 0⟩,
      ⟨(some 75), .bin .add (.t 74) (.c (.pv (.int .u32 (1)))), none, 64⟩,
      ⟨(some 76), .sindex (.c (.pv (.str [48, 48, 48, 49, 48, 50, 48, 51, 48, 52, 48, 53, 48, 54, 48, 55, 48, 56, 48, 57, 49, 48, 49, 49, 49, 50, 49, 51, 49, 52, 49, 53, 49, 54, 49, 55, 49, 56, 49, 57, 50, 48, 50, 49, 50, 50, 50, 51, 50, 52, 50, 53, 50, 54, 50, 55, 50, 56, 50, 57, 51, 48, 51, 49, 51, 50, 51, 51, 51, 52, 51, 53, 51, 54, 51, 55, 51, 56, 51, 57, 52, 48, 52, 49, 52, 50, 52, 51, 52, 52, 52, 53, 52, 54, 52, 55, 52, 56, 52, 57, 53, 48, 53, 49, 53, 50, 53, 51, 53, 52, 53, 53, 53, 54, 53, 55, 53, 56, 53, 57, 54, 48, 54, 49, 54, 50, 54, 51, 54, 52, 54, 53, 54, 54, 54, 55, 54, 56, 54, 57, 55, 48, 55, 49, 55, 50, 55, 51, 55, 52, 55, 53, 55, 54, 55, 55, 55, 56, 55, 57, 56, 48, 56, 49, 56, 50, 56, 51, 56, 52, 56, 53, 56, 54, 56, 55, 56, 56, 56, 57, 57, 48, 57, 49, 57, 50, 57, 51, 57, 52, 57, 53, 57, 54, 57, 55, 57, 56, 57, 57]))) (.t 75), none, 192⟩,
      ⟨(some 77), .mv (.t 11), none, 0⟩,
      ⟨(some 78), .sindex (.c (.pv (.str [48, 48, 48, 49, 48, 50, 48, 51, 48, 52, 48, 53, 48, 54, 48, 55, 48, 56, 48, 57, 49, 48, 49, 49, 49, 50, 49, 51, 49, 52, 49, 53, 49, 54, 49, 55, 49, 56, 49, 57, 50, 48, 50, 49, 50, 50, 50, 51, 50, 52, 50, 53, 50, 54, 50, 55, 50, 56, 50, 57, 51, 48, 51, 49, 51, 50, 51, 51, 51, 52, 51, 53, 51, 54, 51, 55, 51, 56, 51, 57, 52, 48, 52, 49, 52, 50, 52, 51, 52, 52, 52, 53, 52, 54, 52, 55, 52, 56, 52, 57, 53, 48, 53, 49, 53, 50, 53, 51, 53, 52, 53, 53, 53, 54, 53, 55, 53, 56, 53, 57, 54, 48, 54, 49, 54, 50, 54, 51, 54, 52, 54, 53, 54, 54, 54, 55, 54, 56, 54, 57, 55, 48, 55, 49, 55, 50, 55, 51, 55, 52, 55, 53, 55, 54, 55, 55, 55, 56, 55, 57, 56, 48, 56, 49, 56, 50, 56, 51, 56, 52, 56, 53, 56, 54, 56, 55, 56, 56, 56, 57, 57, 48, 57, 49, 57, 50, 57, 51, 57, 52, 57, 53, 57, 54, 57, 55, 57, 56, 57, 57]))) (.t 77), none, 512⟩,
      ⟨(some 79), .iaddr 1 (.t 68) (.t 70), none, 455⟩,
      ⟨none, .store 1 (.t 79) (.t 76), none, 2503⟩,
      ⟨(some 80), .iaddr 1 (.t 71) (.t 73), none, 8191⟩,
      ⟨none, .store 1 (.t 80) (.t 78), none, 16383⟩] true)
    (.seq (.reg [⟨(some 81), .mv (.t 0), none, 0⟩,
      ⟨(some 82), .mv (.t 4), none, 0⟩,
      ⟨(some 83), .bin .sub (.t 82) (.c (.pv (.int .i64 (7)))), none, 2⟩,
      ⟨(some 84), .mv (.t 0), none, 0⟩,
      ⟨(some 85), .mv (.t 4), none, 0⟩,
      ⟨(some 86), .bin .sub (.t 85) (.c (.pv (.int .i64 (8)))), none, 16⟩,
      ⟨(some 87), .mv (.t 10), none, 0⟩,
      ⟨(some 88), .bin .add (.t 87) (.c (.pv (.int .u32 (1)))), none, 64⟩,
      ⟨(some 89), .sindex (.c (.pv (.str [48, 48, 48, 49, 48, 50, 48, 51, 48, 52, 48, 53, 48, 54, 48, 55, 48, 56, 48, 57, 49, 48, 49, 49, 49, 50, 49, 51, 49, 52, 49, 53, 49, 54, 49, 55, 49, 56, 49, 57, 50, 48, 50, 49, 50, 50, 50, 51, 50, 52, 50, 53, 50, 54, 50, 55, 50, 56, 50, 57, 51, 48, 51, 49, 51, 50, 51, 51, 51, 52, 51, 53, 51, 54, 51, 55, 51, 56, 51, 57, 52, 48, 52, 49, 52, 50, 52, 51, 52, 52, 52, 53, 52, 54, 52, 55, 52, 56, 52, 57, 53, 48, 53, 49, 53, 50, 53, 51, 53, 52, 53, 53, 53, 54, 53, 55, 53, 56, 53, 57, 54, 48, 54, 49, 54, 50, 54, 51, 54, 52, 54, 53, 54, 54, 54, 55, 54, 56, 54, 57, 55, 48, 55, 49, 55, 50, 55, 51, 55, 52, 55, 53, 55, 54, 55, 55, 55, 56, 55, 57, 56, 48, 56, 49, 56, 50, 56, 51, 56, 52, 56, 53, 56, 54, 56, 55, 56, 56, 56, 57, 57, 48, 57, 49, 57, 50, 57, 51, 57, 52, 57, 53, 57, 54, 57, 55, 57, 56, 57, 57]))) (.t 88), none, 192⟩,
      ⟨(some 90), .mv (.t 10), none, 0⟩,
      ⟨(some 91), .sindex (.c (.pv (.str [48, 48, 48, 49, 48, 50, 48, 51, 48, 52, 48, 53, 48, 54, 48, 55, 48, 56, 48, 57, 49, 48, 49, 49, 49, 50, 49, 51, 49, 52, 49, 53, 49, 54, 49, 55, 49, 56, 49, 57, 50, 48, 50, 49, 50, 50, 50, 51, 50, 52, 50, 53, 50, 54, 50, 55, 50, 56, 50, 57, 51, 48, 51, 49, 51, 50, 51, 51, 51, 52, 51, 53, 51, 54, 51, 55, 51, 56, 51, 57, 52, 48, 52, 49, 52, 50, 52, 51, 52, 52, 52, 53, 52, 54, 52, 55, 52, 56, 52, 57, 53, 48, 53, 49, 53, 50, 53, 51, 53, 52, 53, 53, 53, 54, 53, 55, 53, 56, 53, 57, 54, 48, 54, 49, 54, 50, 54, 51, 54, 52, 54, 53, 54, 54, 54, 55, 54, 56, 54, 57, 55, 48, 55, 49, 55, 50, 55, 51, 55, 52, 55, 53, 55, 54, 55, 55, 55, 56, 55, 57, 56, 48, 56, 49, 56, 50, 56, 51, 56, 52, 56, 53, 56, 54, 56, 55, 56, 56, 56, 57, 57, 48, 57, 49, 57, 50, 57, 51, 57, 52, 57, 53, 57, 54, 57, 55, 57, 56, 57, 57]))) (.t 90), none, 512⟩,
      ⟨(some 92), .iaddr 1 (.t 81) (.t 83), none, 455⟩,
      ⟨none, .store 1 (.t 92) (.t 89), none, 2503⟩,
      ⟨(some 93), .iaddr 1 (.t 84) (.t 86), none, 8191⟩,
      ⟨none, .store 1 (.t 93) (.t 91), none, 16383⟩] true)
    (.reg [⟨(some 94), .mv (.t 4), none, 0⟩,
      ⟨(some 95), .bin .sub (.t 94) (.c (.pv (.int .i64 (8)))), none, 1⟩,
      ⟨(some 4), .mv (.t 95), none, 3⟩] false))))))))))))))
 (.seq (.reg [⟨(some 96), .mv (.t 1), none, 0⟩,
   ⟨(some 97), .conv .u32 (.t 96), none, 1⟩,
   ⟨(some 12), .mv (.t 97), none, 3⟩] false)
 (.seq (.seq (.reg [⟨(some 98), .mv (.t 4), none, 0⟩,
   ⟨(some 99), .bin .geq (.t 98) (.c (.pv (.int .i64 (4)))), none, 1⟩] false)
 (.cond (.t 99)
  (.seq (.reg [⟨(some 100), .mv (.t 12), none, 0⟩,
    ⟨(some 101), .bin .rem (.t 100) (.c (.pv (.int .u32 (10000)))), none, 1⟩,
    ⟨(some 13), .mv (.t 101), none, 3⟩] false)
  (.seq (.reg [⟨(some 102), .mv (.t 12), none, 0⟩,
    ⟨(some 103), .bin .quo (.t 102) (.c (.pv (.int .u32 (10000)))), none, 1⟩,
    ⟨(some 12), .mv (.t 103), none, 3⟩] false)
  (.seq (.reg [⟨(some 104), .mv (.t 13), none, 0⟩,
    ⟨(some 105), .bin .quo (.t 104) (.c (.pv (.int .u32 (100)))), none, 1⟩,
    ⟨(some 106), .bin .mul (.t 105) (.c (.pv (.int .u32 (2)))), none, 3⟩,
    ⟨(some 107), .mv (.t 13), none, 0⟩,
    ⟨(some 108), .bin .rem (.t 107) (.c (.pv (.int .u32 (100)))), none, 8⟩,
    ⟨(some 109), .bin .mul (.t 108) (.c (.pv (.int .u32 (2)))), none, 24⟩,
    ⟨(some 14), .mv (.t 106), none, 7⟩,
    ⟨(some 15), .mv (.t 109), none, 127⟩] false)
  (.seq (.reg [⟨(some 110), .mv (.t 0), none, 0⟩,
    ⟨(some 111), .mv (.t 4), none, 0⟩,
    ⟨(some 112), .bin .sub (.t 111) (.c (.pv (.int .i64 (1)))), none, 2⟩,
    ⟨(some 113), .mv (.t 0), none, 0⟩,
    ⟨(some 114), .mv (.t 4), none, 0⟩,
    ⟨(some 115), .bin .sub (.t 114) (.c (.pv (.int .i64 (2)))), none, 16⟩,
    ⟨(some 116), .mv (.t 15), none, 0⟩,
    ⟨(some 117), .bin .add (.t 116) (.c (.pv (.int .u32 (1)))), none, 64⟩,
    ⟨(some 118), .sindex (.c (.pv (.str [48, 48, 48, 49, 48, 50, 48, 51, 48, 52, 48, 53, 48, 54, 48, 55, 48, 56, 48, 57, 49, 48, 49, 49, 49, 50, 49, 51, 49, 52, 49, 53, 49, 54, 49, 55, 49, 56, 49, 57, 50, 48, 50, 49, 50, 50, 50, 51, 50, 52, 50, 53, 50, 54, 50, 55, 50, 56, 50, 57, 51, 48, 51, 49, 51, 50, 51, 51, 51, 52, 51, 53, 51, 54, 51, 55, 51, 56, 51, 57, 52, 48, 52, 49, 52, 50, 52, 51, 52, 52, 52, 53, 52, 54, 52, 55, 52, 56, 52, 57, 53, 48, 53, 49, 53, 50, 53, 51, 53, 52, 53, 53, 53, 54, 53, 55, 53, 56, 53, 57, 54, 48, 54, 49, 54, 50, 54, 51, 54, 52, 54, 53, 54, 54, 54, 55, 54, 56, 54, 57, 55, 48, 55, 49, 55, 50, 55, 51, 55, 52, 55, 53, 55, 54, 55, 55, 55, 56, 55, 57, 56, 48, 56, 49, 56, 50, 56, 51, 56, 52, 56, 53, 56, 54, 56, 55, 56, 56, 56, 57, 57, 48, 57, 49, 57, 50, 57, 51, 57, 52, 57, 53, 57, 54, 57, 55, 57, 56, 57, 57]))) (.t 117), none, 192⟩,
    ⟨(some 119), .mv (.t 15), none, 0⟩,
    ⟨(some 120), .sindex (.c (.pv (.str [48, 48, 48, 49, 48, 50, 48, 51, 48, 52, 48, 53, 48, 54, 48, 55, 48, 56, 48, 57, 49, 48, 49, 49, 49, 50, 49, 51, 49, 52, 49, 53, 49, 54, 49, 55, 49, 56, 49, 57, 50, 48, 50, 49, 50, 50, 50, 51, 50, 52, 50, 53, 50, 54, 50, 55, 50, 56, 50, 57, 51, 48, 51, 49, 51, 50, 51, 51, 51, 52, 51, 53, 51, 54, 51, 55, 51, 56, 51, 57, 52, 48, 52, 49, 52, 50, 52, 51, 52, 52, 52, 53, 52, 54, 52, 55, 52, 56, 52, 57, 53, 48, 53, 49, 53, 50, 53, 51, 53, 52, 53, 53, 53, 54, 53, 55, 53, 56, 53, 57, 54, 48, 54, 49, 54, 50, 54, 51, 54, 52, 54, 53, 54, 54, 54, 55, 54, 56, 54, 57, 55, 48, 55, 49, 55, 50, 55, 51, 55, 52, 55, 53, 55, 54, 55, 55, 55, 56, 55, 57, 56, 48, 56, 49, 56, 50, 56, 51, 56, 52, 56, 53, 56, 54, 56, 55, 56, 56, 56, 57, 57, 48, 57, 49, 57, 50, 57, 51, 57, 52, 57, 53, 57, 54, 57, 55, 57, 56, 57, 57]))) (.t 119), none, 512⟩,
    ⟨(some 121), .iaddr 1 (.t 110) (.t 112), none, 455⟩,
    ⟨none, .store 1 (.t 121) (.t 118), none, 2503⟩,
    ⟨(some 122), .iaddr 1 (.t 113) (.t 115), none, 8191⟩,
    ⟨none, .store 1 (.t 122) (.t 120), none, 16383⟩] true)
  (.seq (.reg [⟨(some 123), .mv (.t 0), none, 0⟩,
    ⟨(some 124), .mv (.t 4), none, 0⟩,
    ⟨(some 125), .bin .sub (.t 124) (.c (.pv (.int .i64 (3)))), none, 2⟩,
    ⟨(some 126), .mv (.t 0), none, 0⟩,
    ⟨(some 127), .mv (.t 4), none, 0⟩,
    ⟨(some 128), .bin .sub (.t 127) (.c (.pv (.int .i64 (4)))), none, 16⟩,
    ⟨(some 129), .mv (.t 14), none, 0⟩,
    ⟨(some 130), .bin .add (.t 129) (.c (.pv (.int .u32 (1)))), none, 64⟩,
    ⟨(some 131), .sindex (.c (.pv (.str [48, 48, 48, 49, 48, 50, 48, 51, 48, 52, 48, 53, 48, 54, 48, 55, 48, 56, 48, 57, 49, 48, 49, 49, 49, 50, 49, 51, 49, 52, 49, 53, 49, 54, 49, 55, 49, 56, 49, 57, 50, 48, 50, 49, 50, 50, 50, 51, 50, 52, 50, 53, 50, 54, 50, 55, 50, 56, 50, 57, 51, 48, 51, 49, 51, 50, 51, 51, 51, 52, 51, 53, 51, 54, 51, 55, 51, 56, 51, 57, 52, 48, 52, 49, 52, 50, 52, 51, 52, 52, 52, 53, 52, 54, 52, 55, 52, 56, 52, 57, 53, 48, 53, 49, 53, 50, 53, 51, 53, 52, 53, 53, 53, 54, 53, 55, 53, 56, 53, 57, 54, 48, 54, 49, 54, 50, 54, 51, 54, 52, 54, 53, 54, 54, 54, 55, 54, 56, 54, 57, 55, 48, 55, 49, 55, 50, 55, 51, 55, 52, 55, 53, 55, 54, 55, 55, 55, 56, 55, 57, 56, 48, 56, 49, 56, 50, 56, 51, 56, 52, 56, 53, 56, 54, 56, 55, 56, 56, 56, 57, 57, 48, 57, 49, 57, 50, 57, 51, 57, 52, 57, 53, 57, 54, 57, 55, 57, 56, 57, 57]))) (.t 130), none, 192⟩,
    ⟨(some 132), .mv (.t 14), none, 0⟩,
    ⟨(some 133), .sindex (.c (.pv (.str [48, 48, 48, 49, 48, 50, 48, 51, 48, 52, 48, 53, 48, 54, 48, 55, 48, 56, 48, 57, 49, 48, 49, 49, 49, 50, 49, 51, 49, 52, 49, 53, 49, 54, 49, 55, 49, 56, 49, 57, 50, 48, 50, 49, 50, 50, 50, 51, 50, 52, 50, 53, 50, 54, 50, 55, 50, 56, 50, 57, 51, 48, 51, 49, 51, 50, 51, 51, 51, 52, 51, 53, 51, 54, 51, 55, 51, 56, 51, 57, 52, 48, 52, 49, 52, 50, 52, 51, 52, 52, 52, 53, 52, 54, 52, 55, 52, 56, 52, 57, 53, 48, 53, 49, 53, 50, 53, 51, 53, 52, 53, 53, 53, 54, 53, 55, 53, 56, 53, 57, 54, 48, 54, 49, 54, 50, 54, 51, 54, 52, 54, 53, 54, 54, 54, 55, 54, 56, 54, 57, 55, 48, 55, 49, 55, 50, 55, 51, 55, 52, 55, 53, 55, 54, 55, 55, 55, 56, 55, 57, 56, 48, 56, 49, 56, 50, 56, 51, 56, 52, 56, 53, 56, 54, 56, 55, 56, 56, 56, 57, 57, 48, 57, 49, 57, 50, 57, 51, 57, 52, 57, 53, 57, 54, 57, 55, 57, 56, 57, 57]))) (.t 132), none, 512⟩,
    ⟨(some 134), .iaddr 1 (.t 123) (.t 125), none, 455⟩,
    ⟨none, .store 1 (.t 134) (.t 131), none, 2503⟩,
    ⟨(some 135), .iaddr 1 (.t 126) (.t 128), none, 8191⟩,
    ⟨none, .store 1 (.t 135) (.t 133), none, 16383⟩] true)
  (.reg [⟨(some 136), .mv (.t 4), none, 0⟩,
    ⟨(some 137), .bin .sub (.t 136) (.c (.pv (.int .i64 (4)))), none, 1⟩,
    ⟨(some 4), .mv (.t 137), none, 3⟩] false))))))
  (.skip)))
 (.seq (.seq (.reg [⟨(some 138), .mv (.t 4), none, 0⟩,
   ⟨(some 139), .bin .geq (.t 138) (.c (.pv (.int .i64 (2)))), none, 1⟩] false)
 (.cond (.t 139)
  (.seq (.reg [⟨(some 140), .mv (.t 12), none, 0⟩,
    ⟨(some 141), .bin .rem (.t 140) (.c (.pv (.int .u32 (100)))), none, 1⟩,
    ⟨(some 142), .bin .mul (.t 141) (.c (.pv (.int .u32 (2)))), none, 3⟩,
    ⟨(some 16), .mv (.t 142), none, 7⟩] false)
  (.seq (.reg [⟨(some 143), .mv (.t 12), none, 0⟩,
    ⟨(some 144), .bin .quo (.t 143) (.c (.pv (.int .u32 (100)))), none, 1⟩,
    ⟨(some 12), .mv (.t 144), none, 3⟩] false)
  (.seq (.reg [⟨(some 145), .mv (.t 0), none, 0⟩,
    ⟨(some 146), .mv (.t 4), none, 0⟩,
    ⟨(some 147), .bin .sub (.t 146) (.c (.pv (.int .i64 (1)))), none, 2⟩,
    ⟨(some 148), .mv (.t 0), none, 0⟩,
    ⟨(some 149), .mv (.t 4), none, 0⟩,
    ⟨(some 150), .bin .sub (.t 149) (.c (.pv (.int .i64 (2)))), none, 16⟩,
    ⟨(some 151), .mv (.t 16), none, 0⟩,
    ⟨(some 152), .bin .add (.t 151) (.c (.pv (.int .u32 (1)))), none, 64⟩,
    ⟨(some 153), .sindex (.c (.pv (.str [48, 48, 48, 49, 48, 50, 48, 51, 48, 52, 48, 53, 48, 54, 48, 55, 48, 56, 48, 57, 49, 48, 49, 49, 49, 50, 49, 51, 49, 52, 49, 53, 49, 54, 49, 55, 49, 56, 49, 57, 50, 48, 50, 49, 50, 50, 50, 51, 50, 52, 50, 53, 50, 54, 50, 55, 50, 56, 50, 57, 51, 48, 51, 49, 51, 50, 51, 51, 51, 52, 51, 53, 51, 54, 51, 55, 51, 56, 51, 57, 52, 48, 52, 49, 52, 50, 52, 51, 52, 52, 52, 53, 52, 54, 52, 55, 52, 56, 52, 57, 53, 48, 53, 49, 53, 50, 53, 51, 53, 52, 53, 53, 53, 54, 53, 55, 53, 56, 53, 57, 54, 48, 54, 49, 54, 50, 54, 51, 54, 52, 54, 53, 54, 54, 54, 55, 54, 56, 54, 57, 55, 48, 55, 49, 55, 50, 55, 51, 55, 52, 55, 53, 55, 54, 55, 55, 55, 56, 55, 57, 56, 48, 56, 49, 56, 50, 56, 51, 56, 52, 56, 53, 56, 54, 56, 55, 56, 56, 56, 57, 57, 48, 57, 49, 57, 50, 57, 51, 57, 52, 57, 53, 57, 54, 57, 55, 57, 56, 57, 57]))) (.t 152), none, 192⟩,
    ⟨(some 154), .mv (.t 16), none, 0⟩,
    ⟨(some 155), .sindex (.c (.pv (.str [48, 48, 48, 49, 48, 50, 48, 51, 48, 52, 48, 53, 48, 54, 48, 55, 48, 56, 48, 57, 49, 48, 49, 49, 49, 50, 49, 51, 49, 52, 49, 53, 49, 54, 49, 55, 49, 56, 49, 57, 50, 48, 50, 49, 50, 50, 50, 51, 50, 52, 50, 53, 50, 54, 50, 55, 50, 56, 50, 57, 51, 48, 51, 49, 51, 50, 51, 51, 51, 52, 51, 53, 51, 54, 51, 55, 51, 56, 51, 57, 52, 48, 52, 49, 52, 50, 52, 51, 52, 52, 52, 53, 52, 54, 52, 55, 52, 56, 52, 57, 53, 48, 53, 49, 53, 50, 53, 51, 53, 52, 53, 53, 53, 54, 53, 55, 53, 56, 53, 57, 54, 48, 54, 49, 54, 50, 54, 51, 54, 52, 54, 53, 54, 54, 54, 55, 54, 56, 54, 57, 55, 48, 55, 49, 55, 50, 55, 51, 55, 52, 55, 53, 55, 54, 55, 55, 55, 56, 55, 57, 56, 48, 56, 49, 56, 50, 56, 51, 56, 52, 56, 53, 56, 54, 56, 55, 56, 56, 56, 57, 57, 48, 57, 49, 57, 50, 57, 51, 57, 52, 57, 53, 57, 54, 57, 55, 57, 56, 57, 57]))) (.t 154), none, 512⟩,
    ⟨(some 156), .iaddr 1 (.t 145) (.t 147), none, 455⟩,
    ⟨none, .store 1 (.t 156) (.t 153), none, 2503⟩,
    ⟨(some 157), .iaddr 1 (.t 148) (.t 150), none, 8191⟩,
    ⟨none, .store 1 (.t 157) (.t 155), none, 16383⟩] true)
  (.reg [⟨(some 158), .mv (.t 4), none, 0⟩,
    ⟨(some 159), .bin .sub (.t 158) (.c (.pv (.int .i64 (2)))), none, 1⟩,
    ⟨(some 4), .mv (.t 159), none, 3⟩] false))))
  (.skip)))
 (.seq (.reg [⟨(some 160), .mv (.t 4), none, 0⟩,
   ⟨(some 161), .bin .gtr (.t 160) (.c (.pv (.int .i64 (0)))), none, 1⟩] false)
 (.cond (.t 161)
  (.reg [⟨(some 162), .mv (.t 0), none, 0⟩,
    ⟨(some 163), .mv (.t 12), none, 0⟩,
    ⟨(some 164), .bin .add (.c (.pv (.int .u32 (48)))) (.t 163), none, 2⟩,
    ⟨(some 165), .conv .u8 (.t 164), none, 6⟩,
    ⟨(some 166), .iaddr 1 (.t 162) (.c (.pv (.int .i64 (0)))), none, 15⟩,
    ⟨none, .store 1 (.t 166) (.t 165), none, 31⟩] false)
  (.skip)))))))⟩
def c94 : RFn := ⟨1, 9, [.tmp 2],
 .seq (.reg [⟨(some 2), .mv (.c (.pv (.bool false))), none, 0⟩] false)
 (.seq (.reg [⟨(some 3), .mv (.t 0), none, 0⟩,
   ⟨(some 4), .bin .geq (.t 3) (.c (.pv (.int .i64 (-2147483648)))), none, 1⟩,
   ⟨(some 5), .mv (.t 4), none, 3⟩,
   ⟨(some 6), .mv (.t 0), (some (5, true)), 7⟩,
   ⟨(some 7), .bin .leq (.t 6) (.c (.pv (.int .i64 (2147483648)))), (some (5, true)), 15⟩,
   ⟨(some 8), .pick (.t 5) (.t 7) (.c (.pv (.bool false))), none, 31⟩,
   ⟨(some 2), .mv (.t 8), none, 63⟩] false)
 (.ret))⟩
def c96 : RFn := ⟨2, 23, [],
 .seq (.reg [⟨(some 3), .mv (.c (.pv (.int .i64 (1)))), none, 0⟩] false)
 (.seq (.block 0
  (.loop [0, 1, 3]
   (.seq (.seq (.reg [⟨(some 4), .load false 1 (.t 1), none, 0⟩,
     ⟨(some 5), .mv (.t 3), none, 0⟩,
     ⟨(some 6), .bin .quo (.t 4) (.t 5), none, 3⟩,
     ⟨(some 7), .bin .geq (.t 6) (.c (.pv (.int .i64 (10)))), none, 7⟩] false)
   (.cond (.t 7)
    (.skip)
    (.exit 0)))
   (.block 1
    (.reg [⟨(some 8), .mv (.t 3), none, 0⟩,
      ⟨(some 9), .bin .mul (.t 8) (.c (.pv (.int .i64 (10)))), none, 1⟩,
      ⟨(some 3), .mv (.t 9), none, 3⟩] false)))))
 (.block 2
  (.loop [0, 1, 3]
   (.seq (.seq (.reg [⟨(some 10), .mv (.t 3), none, 0⟩,
     ⟨(some 11), .bin .gtr (.t 10) (.c (.pv (.int .i64 (0)))), none, 1⟩] false)
   (.cond (.t 11)
    (.skip)
    (.exit 2)))
   (.seq (.block 3
    (.seq (.reg [⟨(some 14), .mv (.t 0), none, 0⟩,
      ⟨(some 15), .load false 1 (.t 1), none, 0⟩,
      ⟨(some 16), .mv (.t 3), none, 0⟩,
      ⟨(some 17), .bin .quo (.t 15) (.t 16), none, 6⟩,
      ⟨(some 18), .bin .rem (.t 17) (.c (.pv (.int .i64 (10)))), none, 14⟩,
      ⟨(some 19), .conv .u8 (.t 18), none, 30⟩,
      ⟨(some 20), .bin .add (.c (.pv (.int .u8 (48)))) (.t 19), none, 62⟩,
      ⟨(some 21), .call (.t 14) [.t 20], none, 127⟩,
      ⟨(some 22), .not (.t 21), none, 255⟩] false)
    (.cond (.t 22)
     (.ret)
     (.skip))))
   (.reg [⟨(some 12), .mv (.t 3), none, 0⟩,
     ⟨(some 13), .bin .quo (.t 12) (.c (.pv (.int .i64 (10)))), none, 1⟩,
     ⟨(some 3), .mv (.t 13), none, 3⟩] false))))))⟩
def c97 : RFn := ⟨1, 6, [.tmp 2],
 .seq (.reg [⟨(some 2), .mv (.c (.pv (.int .i64 (0)))), none, 0⟩] false)
 (.seq (.reg [⟨(some 3), .mv (.t 0), none, 0⟩,
   ⟨(some 4), .bin .mul (.t 3) (.c (.pv (.int .i64 (78913)))), none, 1⟩,
   ⟨(some 5), .bin .shr (.t 4) (.c (.pv (.int .u64 (18)))), none, 3⟩,
   ⟨(some 2), .mv (.t 5), none, 7⟩] false)
 (.ret))⟩
def c98 : RFn := ⟨1, 25, [.tmp 2],
 .seq (.reg [⟨(some 2), .mv (.c (.pv (.int .i64 (0)))), none, 0⟩] false)
 (.seq (.seq (.reg [⟨(some 3), .mv (.t 0), none, 0⟩,
   ⟨(some 4), .bin .geq (.t 3) (.c (.pv (.int .u64 (4294967296)))), none, 1⟩] false)
 (.cond (.t 4)
  (.seq (.reg [⟨(some 5), .mv (.t 0), none, 0⟩,
    ⟨(some 6), .bin .shr (.t 5) (.c (.pv (.int .u64 (32)))), none, 1⟩,
    ⟨(some 0), .mv (.t 6), none, 3⟩] false)
  (.reg [⟨(some 2), .mv (.c (.pv (.int .i64 (32)))), none, 0⟩] false))
  (.skip)))
 (.seq (.seq (.reg [⟨(some 7), .mv (.t 0), none, 0⟩,
   ⟨(some 8), .bin .geq (.t 7) (.c (.pv (.int .u64 (65536)))), none, 1⟩] false)
 (.cond (.t 8)
  (.seq (.reg [⟨(some 9), .mv (.t 0), none, 0⟩,
    ⟨(some 10), .bin .shr (.t 9) (.c (.pv (.int .u64 (16)))), none, 1⟩,
    ⟨(some 0), .mv (.t 10), none, 3⟩] false)
  (.reg [⟨(some 11), .mv (.t 2), none, 0⟩,
    ⟨(some 12), .bin .add (.t 11) (.c (.pv (.int .i64 (16)))), none, 1⟩,
    ⟨(some 2), .mv (.t 12), none, 3⟩] false))
  (.skip)))
 (.seq (.seq (.reg [⟨(some 13), .mv (.t 0), none, 0⟩,
   ⟨(some 14), .bin .geq (.t 13) (.c (.pv (.int .u64 (256)))), none, 1⟩] false)
 (.cond (.t 14)
  (.seq (.reg [⟨(some 15), .mv (.t 0), none, 0⟩,
    ⟨(some 16), .bin .shr (.t 15) (.c (.pv (.int .u64 (8)))), none, 1⟩,
    ⟨(some 0), .mv (.t 16), none, 3⟩] false)
  (.reg [⟨(some 17), .mv (.t 2), none, 0⟩,
    ⟨(some 18), .bin .add (.t 17) (.c (.pv (.int .i64 (8)))), none, 1⟩,
    ⟨(some 2), .mv (.t 18), none, 3⟩] false))
  (.skip)))
 (.seq (.reg [⟨(some 19), .mv (.t 2), none, 0⟩,
   ⟨(some 20), .mv (.t 0), none, 0⟩,
   ⟨(some 21), .conv .u8 (.t 20), none, 2⟩,
   ⟨(some 22), .sindex (.c (.pv (.str [0, 1, 2, 2, 3, 3, 3, 3, 4, 4, 4, 4, 4, 4, 4, 4, 5, 5, 5, 5, 5, 5, 5, 5, 5, 5, 5, 5, 5, 5, 5, 5, 6, 6, 6, 6, 6, 6, 6, 6, 6, 6, 6, 6, 6, 6, 6, 6, 6, 6, 6, 6, 6, 6, 6, 6, 6, 6, 6, 6, 6, 6, 6, 6, 7, 7, 7, 7, 7, 7, 7, 7, 7, 7, 7, 7, 7, 7, 7, 7, 7, 7, 7, 7, 7, 7, 7, 7, 7, 7, 7, 7, 7, 7, 7, 7, 7, 7, 7, 7, 7, 7, 7, 7, 7, 7, 7, 7, 7, 7, 7, 7, 7, 7, 7, 7, 7, 7, 7, 7, 7, 7, 7, 7, 7, 7, 7, 7, 8, 8, 8, 8, 8, 8, 8, 8, 8, 8, 8, 8, 8, 8, 8, 8, 8, 8, 8, 8, 8, 8, 8, 8, 8, 8, 8, 8, 8, 8, 8, 8, 8, 8, 8, 8, 8, 8, 8, 8, 8, 8, 8, 8, 8, 8, 8, 8, 8, 8, 8, 8, 8, 8, 8, 8, 8, 8, 8, 8, 8, 8, 8, 8, 8, 8, 8, 8, 8, 8, 8, 8, 8, 8, 8, 8, 8, 8, 8, 8, 8, 8, 8, 8, 8, 8, 8, 8, 8, 8, 8, 8, 8, 8, 8, 8, 8, 8, 8, 8, 8, 8, 8, 8, 8, 8, 8, 8, 8, 8, 8, 8, 8, 8, 8, 8, 8, 8, 8, 8, 8, 8, 8, 8, 8, 8, 8, 8]))) (.t 21), none, 6⟩,
   ⟨(some 23), .conv .i64 (.t 22), none, 14⟩,
   ⟨(some 24), .bin .add (.t 19) (.t 23), none, 31⟩,
   ⟨(some 2), .mv (.t 24), none, 63⟩] false)
 (.ret)))))⟩
def c99 : RFn := ⟨1, 4, [.tmp 2],
 .seq (.reg [⟨(some 2), .mv (.c (.pv (.int .i64 (0)))), none, 0⟩] false)
 (.seq (.seq (.reg [⟨(some 3), .mv (.t 0), none, 0⟩] false)
 (.cond (.t 3)
  (.seq (.reg [⟨(some 2), .mv (.c (.pv (.int .i64 (1)))), none, 0⟩] false)
  (.ret))
  (.skip)))
 (.seq (.reg [⟨(some 2), .mv (.c (.pv (.int .i64 (0)))), none, 0⟩] false)
 (.ret)))⟩
def c100 : RFn := ⟨1, 8, [.tmp 2],
 .seq (.reg [⟨(some 2), .mv (.c (.pv (.bool false))), none, 0⟩] false)
 (.seq (.reg [⟨(some 3), .mv (.t 0), none, 0⟩,
   ⟨(some 4), .mv (.t 0), none, 0⟩,
   ⟨(some 5), .bin .sub (.t 4) (.c (.pv (.int .i64 (1)))), none, 2⟩,
   ⟨(some 6), .bin .and (.t 3) (.t 5), none, 7⟩,
   ⟨(some 7), .bin .eql (.t 6) (.c (.pv (.int .i64 (0)))), none, 15⟩,
   ⟨(some 2), .mv (.t 7), none, 31⟩] false)
 (.ret))⟩
def c101 : RFn := ⟨1, 8, [.tmp 2],
 .seq (.reg [⟨(some 2), .mv (.c (.pv (.int .i64 (0)))), none, 0⟩] false)
 (.seq (.cond (.c (.pv (.bool false)))
  (.seq (.reg [⟨(some 3), .mv (.t 0), none, 0⟩,
    ⟨(some 4), .conv .u32 (.t 3), none, 1⟩,
    ⟨(some 5), .call (.f 103) [.t 4], none, 3⟩,
    ⟨(some 2), .mv (.t 5), none, 7⟩] false)
  (.ret))
  (.skip))
 (.seq (.reg [⟨(some 6), .mv (.t 0), none, 0⟩,
   ⟨(some 7), .call (.f 104) [.t 6], none, 1⟩,
   ⟨(some 2), .mv (.t 7), none, 3⟩] false)
 (.ret)))⟩
def c103 : RFn := ⟨1, 14, [.tmp 2],
 .seq (.reg [⟨(some 2), .mv (.c (.pv (.int .i64 (0)))), none, 0⟩] false)
 (.seq (.seq (.reg [⟨(some 3), .mv (.t 0), none, 0⟩,
   ⟨(some 4), .bin .eql (.t 3) (.c (.pv (.int .u32 (0)))), none, 1⟩] false)
 (.cond (.t 4)
  (.seq (.reg [⟨(some 2), .mv (.c (.pv (.int .i64 (32)))), none, 0⟩] false)
  (.ret))
  (.skip)))
 (.seq (.reg [⟨(some 5), .mv (.t 0), none, 0⟩,
   ⟨(some 6), .mv (.t 0), none, 0⟩,
   ⟨(some 7), .neg (.t 6), none, 2⟩,
   ⟨(some 8), .bin .and (.t 5) (.t 7), none, 7⟩,
   ⟨(some 9), .bin .mul (.t 8) (.c (.pv (.int .u32 (125613361)))), none, 15⟩,
   ⟨(some 10), .bin .shr (.t 9) (.c (.pv (.int .u64 (27)))), none, 31⟩,
   ⟨(some 11), .paddr 32 1 (.g 1) (.t 10), none, 63⟩,
   ⟨(some 12), .load false 1 (.t 11), none, 127⟩,
   ⟨(some 13), .conv .i64 (.t 12), none, 255⟩,
   ⟨(some 2), .mv (.t 13), none, 511⟩] false)
 (.ret)))⟩
def c104 : RFn := ⟨1, 14, [.tmp 2],
 .seq (.reg [⟨(some 2), .mv (.c (.pv (.int .i64 (0)))), none, 0⟩] false)
 (.seq (.seq (.reg [⟨(some 3), .mv (.t 0), none, 0⟩,
   ⟨(some 4), .bin .eql (.t 3) (.c (.pv (.int .u64 (0)))), none, 1⟩] false)
 (.cond (.t 4)
  (.seq (.reg [⟨(some 2), .mv (.c (.pv (.int .i64 (64)))), none, 0⟩] false)
  (.ret))
  (.skip)))
 (.seq (.reg [⟨(some 5), .mv (.t 0), none, 0⟩,
   ⟨(some 6), .mv (.t 0), none, 0⟩,
   ⟨(some 7), .neg (.t 6), none, 2⟩,
   ⟨(some 8), .bin .and (.t 5) (.t 7), none, 7⟩,
   ⟨(some 9), .bin .mul (.t 8) (.c (.pv (.int .u64 (285870213051353865)))), none, 15⟩,
   ⟨(some 10), .bin .shr (.t 9) (.c (.pv (.int .u64 (58)))), none, 31⟩,
   ⟨(some 11), .paddr 64 1 (.g 2) (.t 10), none, 63⟩,
   ⟨(some 12), .load false 1 (.t 11), none, 127⟩,
   ⟨(some 13), .conv .i64 (.t 12), none, 255⟩,
   ⟨(some 2), .mv (.t 13), none, 511⟩] false)
 (.ret)))⟩
end Go.Ab.Fk
