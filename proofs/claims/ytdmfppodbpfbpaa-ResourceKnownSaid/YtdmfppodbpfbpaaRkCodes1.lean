/- The code of functions of the program, printed by a program. Under: nothing. -/
import Derived.Test.YtdmfppodbpfbpaaRkCodes0
namespace Go.Ab.Rk
open Go.Ab
def c105 : RFn := ⟨1, 20, [.cell 2 true 7, .tmp 3],
 .seq (.reg [⟨(some 1), .box 7 (.t 0), none, 0⟩,
   ⟨(some 2), .alloc [.pv (.int .i64 (0)), .pv (.bool false), .pv (.int .i64 (0)), .pv (.str []), .pv (.int .i64 (0)), .pv (.int .i64 (0)), .pv (.int .i64 (0))], none, 0⟩,
   ⟨(some 3), .mv (.c (.pv (.int .i64 (0)))), none, 0⟩] false)
 (.seq (.reg [⟨(some 7), .load true 7 (.t 1), none, 0⟩,
   ⟨(some 8), .call (.f 109) [.t 7], none, 1⟩,
   ⟨(some 6), .mv (.t 8), none, 3⟩,
   ⟨(some 9), .extract (.t 6) 0, none, 7⟩,
   ⟨(some 10), .extract (.t 6) 1, none, 7⟩,
   ⟨(some 4), .mv (.t 9), none, 15⟩,
   ⟨(some 5), .mv (.t 10), none, 63⟩] false)
 (.seq (.seq (.reg [⟨(some 11), .mv (.t 5), none, 0⟩,
   ⟨(some 12), .bin .neq (.t 11) (.c (.pv (.int .i64 (0)))), none, 1⟩] false)
 (.cond (.t 12)
  (.seq (.reg [⟨(some 13), .build [.pv (.int .i64 (0)), .pv (.bool false), .pv (.int .i64 (0)), .pv (.str []), .pv (.int .i64 (0)), .pv (.int .i64 (0)), .pv (.int .i64 (0))] [], none, 0⟩,
    ⟨(some 14), .mv (.t 5), none, 0⟩,
    ⟨none, .store 7 (.t 2) (.t 13), none, 1⟩,
    ⟨(some 3), .mv (.t 14), none, 7⟩] false)
  (.ret))
  (.skip)))
 (.seq (.reg [⟨(some 15), .mv (.t 4), none, 0⟩,
   ⟨(some 16), .bin .quo (.t 15) (.c (.pv (.int .i64 (65536)))), none, 1⟩,
   ⟨(some 17), .call (.f 119) [.t 16], none, 3⟩,
   ⟨(some 18), .extract (.t 17) 0, none, 7⟩,
   ⟨(some 19), .extract (.t 17) 1, none, 7⟩,
   ⟨none, .store 7 (.t 2) (.t 18), none, 31⟩,
   ⟨(some 3), .mv (.t 19), none, 63⟩] false)
 (.ret))))⟩
def c106 : RFn := ⟨2, 15, [.cell 4 true 7, .tmp 5],
 .seq (.reg [⟨(some 4), .alloc [.pv (.int .i64 (0)), .pv (.bool false), .pv (.int .i64 (0)), .pv (.str []), .pv (.int .i64 (0)), .pv (.int .i64 (0)), .pv (.int .i64 (0))], none, 0⟩,
   ⟨(some 5), .mv (.c (.pv (.int .i64 (0)))), none, 0⟩] false)
 (.seq (.reg [⟨(some 7), .mv (.t 1), none, 0⟩,
   ⟨(some 8), .mv (.t 0), none, 0⟩,
   ⟨(some 9), .call (.t 7) [.t 8], none, 3⟩,
   ⟨(some 6), .alloc [.pv (.int .i64 (0)), .pv (.bool false), .pv (.int .i64 (0)), .pv (.str []), .pv (.int .i64 (0)), .pv (.int .i64 (0)), .pv (.int .i64 (0))], none, 0⟩,
   ⟨none, .store 7 (.t 6) (.t 9), none, 15⟩] false)
 (.seq (.seq (.reg [⟨(some 10), .load true 7 (.t 6), none, 0⟩,
   ⟨(some 11), .call (.f 66) [.t 10], none, 1⟩,
   ⟨(some 12), .bin .neq (.t 11) (.c (.pv (.int .i64 (0)))), none, 3⟩] false)
 (.cond (.t 12)
  (.seq (.reg [⟨(some 13), .build [.pv (.int .i64 (0)), .pv (.bool false), .pv (.int .i64 (0)), .pv (.str []), .pv (.int .i64 (0)), .pv (.int .i64 (0)), .pv (.int .i64 (0))] [], none, 0⟩,
    ⟨none, .store 7 (.t 4) (.t 13), none, 1⟩,
    ⟨(some 5), .mv (.c (.pv (.int .i64 (2)))), none, 3⟩] false)
  (.ret))
  (.skip)))
 (.seq (.reg [⟨(some 14), .load true 7 (.t 6), none, 0⟩,
   ⟨none, .store 7 (.t 4) (.t 14), none, 1⟩,
   ⟨(some 5), .mv (.c (.pv (.int .i64 (0)))), none, 3⟩] false)
 (.ret))))⟩
def c107 : RFn := ⟨2, 7, [.cell 3 true 7],
 .seq (.reg [⟨(some 3), .alloc [.pv (.int .i64 (0)), .pv (.bool false), .pv (.int .i64 (0)), .pv (.str []), .pv (.int .i64 (0)), .pv (.int .i64 (0)), .pv (.int .i64 (0))], none, 0⟩] false)
 (.seq (.reg [⟨(some 4), .mv (.t 0), none, 0⟩,
   ⟨(some 5), .load false 1 (.t 1), none, 0⟩,
   ⟨(some 6), .build [.pv (.int .i64 (0)), .pv (.bool false), .pv (.int .i64 (0)), .pv (.str []), .pv (.int .i64 (0)), .pv (.int .i64 (0)), .pv (.int .i64 (0))] [(0, 1, .c (.pv (.int .i64 (5)))), (3, 1, .t 4), (1, 1, .t 5)], none, 3⟩,
   ⟨none, .store 7 (.t 3) (.t 6), none, 7⟩] false)
 (.ret))⟩
def c109 : RFn := ⟨1, 16, [.tmp 2, .tmp 3],
 .seq (.reg [⟨(some 1), .box 7 (.t 0), none, 0⟩,
   ⟨(some 2), .mv (.c (.pv (.int .i64 (0)))), none, 0⟩,
   ⟨(some 3), .mv (.c (.pv (.int .i64 (0)))), none, 2⟩] false)
 (.seq (.reg [⟨(some 7), .load true 7 (.t 1), none, 0⟩,
   ⟨(some 8), .call (.f 120) [.t 7], none, 1⟩,
   ⟨(some 6), .mv (.t 8), none, 3⟩,
   ⟨(some 9), .extract (.t 6) 0, none, 7⟩,
   ⟨(some 10), .extract (.t 6) 1, none, 7⟩,
   ⟨(some 4), .alloc [.pv (.int .i64 (0)), .pv (.bool false), .pv (.int .i64 (0)), .pv (.str []), .pv (.int .i64 (0)), .pv (.int .i64 (0)), .pv (.int .i64 (0))], none, 0⟩,
   ⟨none, .store 7 (.t 4) (.t 9), none, 47⟩,
   ⟨(some 5), .mv (.t 10), none, 127⟩] false)
 (.seq (.seq (.reg [⟨(some 11), .mv (.t 5), none, 0⟩,
   ⟨(some 12), .bin .neq (.t 11) (.c (.pv (.int .i64 (0)))), none, 1⟩] false)
 (.cond (.t 12)
  (.seq (.reg [⟨(some 13), .mv (.t 5), none, 0⟩,
    ⟨(some 2), .mv (.c (.pv (.int .i64 (0)))), none, 0⟩,
    ⟨(some 3), .mv (.t 13), none, 3⟩] false)
  (.ret))
  (.skip)))
 (.seq (.reg [⟨(some 14), .load true 7 (.t 4), none, 0⟩,
   ⟨(some 15), .call (.f 121) [.t 14], none, 1⟩,
   ⟨(some 2), .mv (.t 15), none, 3⟩,
   ⟨(some 3), .mv (.c (.pv (.int .i64 (0)))), none, 7⟩] false)
 (.ret))))⟩
def c111 : RFn := ⟨2, 52, [.tmp 4],
 .seq (.reg [⟨(some 2), .box 7 (.t 0), none, 0⟩,
   ⟨(some 3), .box 7 (.t 1), none, 0⟩,
   ⟨(some 4), .mv (.c (.pv (.bool false))), none, 0⟩] false)
 (.seq (.reg [⟨(some 5), .faddr (.t 2) 0, none, 0⟩,
   ⟨(some 6), .load false 1 (.t 5), none, 1⟩,
   ⟨(some 7), .faddr (.t 3) 0, none, 0⟩,
   ⟨(some 8), .load false 1 (.t 7), none, 4⟩,
   ⟨(some 9), .bin .eql (.t 6) (.t 8), none, 15⟩,
   ⟨(some 10), .mv (.t 9), none, 31⟩,
   ⟨(some 11), .faddr (.t 2) 1, (some (10, true)), 63⟩,
   ⟨(some 12), .load false 1 (.t 11), (some (10, true)), 127⟩,
   ⟨(some 13), .faddr (.t 3) 1, (some (10, true)), 63⟩,
   ⟨(some 14), .load false 1 (.t 13), (some (10, true)), 319⟩,
   ⟨(some 15), .bin .eql (.t 12) (.t 14), (some (10, true)), 1023⟩,
   ⟨(some 16), .pick (.t 10) (.t 15) (.c (.pv (.bool false))), none, 2047⟩,
   ⟨(some 17), .mv (.t 16), none, 4095⟩,
   ⟨(some 18), .faddr (.t 2) 2, (some (17, true)), 8191⟩,
   ⟨(some 19), .load false 1 (.t 18), (some (17, true)), 16383⟩,
   ⟨(some 20), .faddr (.t 3) 2, (some (17, true)), 8191⟩,
   ⟨(some 21), .load false 1 (.t 20), (some (17, true)), 40959⟩,
   ⟨(some 22), .call (.f 83) [.t 19, .t 21], (some (17, true)), 131071⟩,
   ⟨(some 23), .pick (.t 17) (.t 22) (.c (.pv (.bool false))), none, 262143⟩,
   ⟨(some 24), .mv (.t 23), none, 524287⟩,
   ⟨(some 25), .faddr (.t 2) 3, (some (24, true)), 1048575⟩,
   ⟨(some 26), .load false 1 (.t 25), (some (24, true)), 2097151⟩,
   ⟨(some 27), .faddr (.t 3) 3, (some (24, true)), 1048575⟩,
   ⟨(some 28), .load false 1 (.t 27), (some (24, true)), 5242879⟩,
   ⟨(some 29), .call (.f 83) [.t 26, .t 28], (some (24, true)), 16777215⟩,
   ⟨(some 30), .pick (.t 24) (.t 29) (.c (.pv (.bool false))), none, 33554431⟩,
   ⟨(some 31), .mv (.t 30), none, 67108863⟩,
   ⟨(some 32), .faddr (.t 2) 4, (some (31, true)), 134217727⟩,
   ⟨(some 33), .load false 1 (.t 32), (some (31, true)), 268435455⟩,
   ⟨(some 34), .faddr (.t 3) 4, (some (31, true)), 134217727⟩,
   ⟨(some 35), .load false 1 (.t 34), (some (31, true)), 671088639⟩,
   ⟨(some 36), .call (.f 83) [.t 33, .t 35], (some (31, true)), 2147483647⟩,
   ⟨(some 37), .pick (.t 31) (.t 36) (.c (.pv (.bool false))), none, 4294967295⟩,
   ⟨(some 38), .mv (.t 37), none, 8589934591⟩,
   ⟨(some 39), .faddr (.t 2) 5, (some (38, true)), 17179869183⟩,
   ⟨(some 40), .load false 1 (.t 39), (some (38, true)), 34359738367⟩,
   ⟨(some 41), .faddr (.t 3) 5, (some (38, true)), 17179869183⟩,
   ⟨(some 42), .load false 1 (.t 41), (some (38, true)), 85899345919⟩,
   ⟨(some 43), .bin .eql (.t 40) (.t 42), (some (38, true)), 274877906943⟩,
   ⟨(some 44), .pick (.t 38) (.t 43) (.c (.pv (.bool false))), none, 549755813887⟩,
   ⟨(some 45), .mv (.t 44), none, 1099511627775⟩,
   ⟨(some 46), .faddr (.t 2) 6, (some (45, true)), 2199023255551⟩,
   ⟨(some 47), .load false 1 (.t 46), (some (45, true)), 4398046511103⟩,
   ⟨(some 48), .faddr (.t 3) 6, (some (45, true)), 2199023255551⟩,
   ⟨(some 49), .load false 1 (.t 48), (some (45, true)), 10995116277759⟩,
   ⟨(some 50), .bin .eql (.t 47) (.t 49), (some (45, true)), 35184372088831⟩,
   ⟨(some 51), .pick (.t 45) (.t 50) (.c (.pv (.bool false))), none, 70368744177663⟩,
   ⟨(some 4), .mv (.t 51), none, 140737488355327⟩] false)
 (.ret))⟩
def c113 : RFn := ⟨1, 6, [.tmp 2],
 .seq (.reg [⟨(some 1), .box 7 (.t 0), none, 0⟩,
   ⟨(some 2), .mv (.c (.pv (.bool false))), none, 0⟩] false)
 (.seq (.reg [⟨(some 3), .faddr (.t 1) 0, none, 0⟩,
   ⟨(some 4), .load false 1 (.t 3), none, 1⟩,
   ⟨(some 5), .bin .eql (.t 4) (.c (.pv (.int .i64 (9)))), none, 3⟩,
   ⟨(some 2), .mv (.t 5), none, 7⟩] false)
 (.ret))⟩
def c114 : RFn := ⟨1, 11, [.tmp 2],
 .seq (.reg [⟨(some 1), .box 7 (.t 0), none, 0⟩,
   ⟨(some 2), .mv (.c (.pv (.bool false))), none, 0⟩] false)
 (.seq (.reg [⟨(some 3), .faddr (.t 1) 0, none, 0⟩,
   ⟨(some 4), .load false 1 (.t 3), none, 1⟩,
   ⟨(some 5), .bin .eql (.t 4) (.c (.pv (.int .i64 (7)))), none, 3⟩,
   ⟨(some 6), .mv (.t 5), none, 7⟩,
   ⟨(some 7), .faddr (.t 1) 0, (some (6, false)), 15⟩,
   ⟨(some 8), .load false 1 (.t 7), (some (6, false)), 31⟩,
   ⟨(some 9), .bin .eql (.t 8) (.c (.pv (.int .i64 (8)))), (some (6, false)), 63⟩,
   ⟨(some 10), .pick (.t 6) (.c (.pv (.bool true))) (.t 9), none, 127⟩,
   ⟨(some 2), .mv (.t 10), none, 255⟩] false)
 (.ret))⟩
def c115 : RFn := ⟨3, 33, [.tmp 6],
 .seq (.reg [⟨(some 6), .mv (.c (.emp 7)), none, 0⟩] false)
 (.seq (.reg [⟨(some 8), .mv (.t 0), none, 0⟩,
   ⟨(some 9), .mv (.t 1), none, 0⟩,
   ⟨(some 10), .mv (.t 2), none, 0⟩,
   ⟨(some 11), .mv (.t 0), none, 0⟩,
   ⟨(some 12), .slen (.t 11), none, 8⟩,
   ⟨(some 13), .slice 7 (.t 8) (some (.t 9)) (some (.t 10)) (some (.t 12)), none, 31⟩] false)
 (.seq (.seq (.reg [⟨(some 14), .mv (.t 1), none, 0⟩,
   ⟨(some 15), .mv (.t 2), none, 0⟩,
   ⟨(some 16), .bin .eql (.t 14) (.t 15), none, 3⟩] false)
 (.cond (.t 16)
  (.seq (.reg [⟨(some 17), .mv (.t 0), none, 0⟩,
    ⟨(some 6), .mv (.t 17), none, 1⟩] false)
  (.ret))
  (.skip)))
 (.seq (.reg [⟨(some 18), .mv (.t 0), none, 0⟩,
   ⟨(some 19), .slen (.t 18), none, 1⟩,
   ⟨(some 7), .mv (.t 19), none, 3⟩] false)
 (.seq (.reg [⟨(some 20), .mv (.t 0), none, 0⟩,
   ⟨(some 21), .mv (.t 1), none, 0⟩,
   ⟨(some 22), .slice 7 (.t 20) none (some (.t 21)) none, none, 3⟩,
   ⟨(some 23), .mv (.t 0), none, 0⟩,
   ⟨(some 24), .mv (.t 2), none, 0⟩,
   ⟨(some 25), .slice 7 (.t 23) (some (.t 24)) none none, none, 24⟩,
   ⟨(some 26), .append 7 64 (.t 22) (.t 25), none, 63⟩,
   ⟨(some 0), .mv (.t 26), none, 127⟩] true)
 (.seq (.reg [⟨(some 27), .mv (.t 0), none, 0⟩,
   ⟨(some 28), .mv (.t 0), none, 0⟩,
   ⟨(some 29), .slen (.t 28), none, 2⟩,
   ⟨(some 30), .mv (.t 7), none, 0⟩,
   ⟨(some 31), .slice 7 (.t 27) (some (.t 29)) (some (.t 30)) none, none, 15⟩,
   ⟨none, .clear 7 [.int .i64 (0), .bool false, .int .i64 (0), .str [], .int .i64 (0), .int .i64 (0), .int .i64 (0)] (.t 31), none, 31⟩] false)
 (.seq (.reg [⟨(some 32), .mv (.t 0), none, 0⟩,
   ⟨(some 6), .mv (.t 32), none, 1⟩] false)
 (.ret)))))))⟩
theorem del115 : c115 = deleteC 7 64 [.int .i64 (0), .bool false, .int .i64 (0), .str [], .int .i64 (0), .int .i64 (0), .int .i64 (0)] := rfl
def c117 : RFn := ⟨1, 7, [.tmp 2],
 .seq (.reg [⟨(some 1), .box 6 (.t 0), none, 0⟩,
   ⟨(some 2), .mv (.c (.pv (.int .i64 (0)))), none, 0⟩] false)
 (.seq (.reg [⟨(some 3), .build [.pv (.int .i64 (0)), .pv (.int .i64 (0)), .pv (.int .i64 (0)), .pv (.int .i64 (0))] [(0, 1, .c (.pv (.int .i64 (0)))), (1, 1, .c (.pv (.int .i64 (1000)))), (2, 1, .c (.pv (.int .i64 (1000)))), (3, 1, .c (.pv (.int .i64 (0))))], none, 0⟩,
   ⟨(some 4), .faddr (.t 1) 5, none, 0⟩,
   ⟨(some 5), .load false 1 (.t 4), none, 2⟩,
   ⟨(some 6), .index false 4 1 (.t 3) (.t 5), none, 7⟩,
   ⟨(some 2), .mv (.t 6), none, 15⟩] false)
 (.ret))⟩
def c118 : RFn := ⟨2, 19, [.tmp 4],
 .seq (.reg [⟨(some 4), .mv (.c (.pv (.int .i64 (0)))), none, 0⟩] false)
 (.seq (.seq (.reg [⟨(some 6), .mv (.t 0), none, 0⟩,
   ⟨(some 7), .slen (.t 6), none, 1⟩,
   ⟨(some 8), .mv (.c (.pv (.int .i64 (0)))), none, 0⟩] false)
 (.block 0
  (.loop [0, 1, 7, 8]
   (.seq (.reg [⟨(some 9), .bin .lss (.t 8) (.t 7), none, 0⟩] false)
   (.seq (.cond (.t 9)
    (.skip)
    (.exit 0))
   (.seq (.block 1
    (.seq (.reg [⟨(some 10), .mv (.t 8), none, 0⟩,
      ⟨(some 5), .mv (.t 10), none, 1⟩] false)
    (.seq (.reg [⟨(some 11), .mv (.t 1), none, 0⟩,
      ⟨(some 12), .mv (.t 0), none, 0⟩,
      ⟨(some 13), .mv (.t 5), none, 0⟩,
      ⟨(some 14), .iaddr 1 (.t 12) (.t 13), none, 6⟩,
      ⟨(some 15), .load false 1 (.t 14), none, 14⟩,
      ⟨(some 16), .bin .eql (.t 11) (.t 15), none, 31⟩] false)
    (.cond (.t 16)
     (.seq (.reg [⟨(some 17), .mv (.t 5), none, 0⟩,
       ⟨(some 4), .mv (.t 17), none, 1⟩] false)
     (.ret))
     (.skip)))))
   (.reg [⟨(some 18), .bin .add (.t 8) (.c (.pv (.int .i64 (1)))), none, 0⟩,
     ⟨(some 8), .mv (.t 18), none, 1⟩] false)))))))
 (.seq (.reg [⟨(some 4), .mv (.c (.pv (.int .i64 (-1)))), none, 0⟩] false)
 (.ret)))⟩
def c119 : RFn := ⟨1, 8, [.cell 2 true 7, .tmp 3],
 .seq (.reg [⟨(some 2), .alloc [.pv (.int .i64 (0)), .pv (.bool false), .pv (.int .i64 (0)), .pv (.str []), .pv (.int .i64 (0)), .pv (.int .i64 (0)), .pv (.int .i64 (0))], none, 0⟩,
   ⟨(some 3), .mv (.c (.pv (.int .i64 (0)))), none, 0⟩] false)
 (.seq (.reg [⟨(some 4), .mv (.t 0), none, 0⟩,
   ⟨(some 5), .call (.f 124) [.t 4, .f 125], none, 1⟩,
   ⟨(some 6), .extract (.t 5) 0, none, 3⟩,
   ⟨(some 7), .extract (.t 5) 1, none, 3⟩,
   ⟨none, .store 7 (.t 2) (.t 6), none, 15⟩,
   ⟨(some 3), .mv (.t 7), none, 31⟩] false)
 (.ret))⟩
def c120 : RFn := ⟨1, 22, [.cell 2 true 7, .tmp 3],
 .seq (.reg [⟨(some 1), .box 7 (.t 0), none, 0⟩,
   ⟨(some 2), .alloc [.pv (.int .i64 (0)), .pv (.bool false), .pv (.int .i64 (0)), .pv (.str []), .pv (.int .i64 (0)), .pv (.int .i64 (0)), .pv (.int .i64 (0))], none, 0⟩,
   ⟨(some 3), .mv (.c (.pv (.int .i64 (0)))), none, 0⟩] false)
 (.seq (.seq (.reg [⟨(some 5), .load true 7 (.t 1), none, 0⟩,
   ⟨(some 6), .call (.f 66) [.t 5], none, 1⟩,
   ⟨(some 4), .mv (.t 6), none, 3⟩] false)
 (.seq (.reg [⟨(some 7), .mv (.t 4), none, 0⟩,
   ⟨(some 8), .bin .neq (.t 7) (.c (.pv (.int .i64 (0)))), none, 1⟩] false)
 (.cond (.t 8)
  (.seq (.reg [⟨(some 9), .build [.pv (.int .i64 (0)), .pv (.bool false), .pv (.int .i64 (0)), .pv (.str []), .pv (.int .i64 (0)), .pv (.int .i64 (0)), .pv (.int .i64 (0))] [], none, 0⟩,
    ⟨(some 10), .mv (.t 4), none, 0⟩,
    ⟨none, .store 7 (.t 2) (.t 9), none, 1⟩,
    ⟨(some 3), .mv (.t 10), none, 7⟩] false)
  (.ret))
  (.skip))))
 (.seq (.seq (.reg [⟨(some 11), .faddr (.t 1) 0, none, 0⟩,
   ⟨(some 12), .load false 1 (.t 11), none, 1⟩,
   ⟨(some 13), .bin .neq (.t 12) (.c (.pv (.int .i64 (3)))), none, 3⟩,
   ⟨(some 14), .mv (.t 13), none, 7⟩,
   ⟨(some 15), .faddr (.t 1) 0, (some (14, true)), 15⟩,
   ⟨(some 16), .load false 1 (.t 15), (some (14, true)), 31⟩,
   ⟨(some 17), .bin .neq (.t 16) (.c (.pv (.int .i64 (4)))), (some (14, true)), 63⟩,
   ⟨(some 18), .pick (.t 14) (.t 17) (.c (.pv (.bool false))), none, 127⟩] false)
 (.cond (.t 18)
  (.seq (.reg [⟨(some 19), .build [.pv (.int .i64 (0)), .pv (.bool false), .pv (.int .i64 (0)), .pv (.str []), .pv (.int .i64 (0)), .pv (.int .i64 (0)), .pv (.int .i64 (0))] [], none, 0⟩,
    ⟨none, .store 7 (.t 2) (.t 19), none, 1⟩,
    ⟨(some 3), .mv (.c (.pv (.int .i64 (22)))), none, 3⟩] false)
  (.ret))
  (.skip)))
 (.seq (.reg [⟨(some 20), .load true 7 (.t 1), none, 0⟩,
   ⟨(some 21), .build [.pv (.int .i64 (0)), .pv (.bool false), .pv (.int .i64 (0)), .pv (.str []), .pv (.int .i64 (0)), .pv (.int .i64 (0)), .pv (.int .i64 (0))] [(0, 7, .t 20)], none, 1⟩,
   ⟨none, .store 7 (.t 2) (.t 21), none, 3⟩,
   ⟨(some 3), .mv (.c (.pv (.int .i64 (0)))), none, 7⟩] false)
 (.ret))))⟩
def c121 : RFn := ⟨1, 14, [.tmp 2],
 .seq (.reg [⟨(some 1), .box 7 (.t 0), none, 0⟩,
   ⟨(some 2), .mv (.c (.pv (.int .i64 (0)))), none, 0⟩] false)
 (.seq (.seq (.reg [⟨(some 3), .faddr (.t 1) 0, none, 0⟩,
   ⟨(some 4), .faddr (.t 3) 0, none, 1⟩,
   ⟨(some 5), .load false 1 (.t 4), none, 3⟩,
   ⟨(some 6), .bin .eql (.t 5) (.c (.pv (.int .i64 (3)))), none, 7⟩] false)
 (.cond (.t 6)
  (.seq (.reg [⟨(some 7), .faddr (.t 1) 0, none, 0⟩,
    ⟨(some 8), .faddr (.t 7) 2, none, 1⟩,
    ⟨(some 9), .load false 1 (.t 8), none, 3⟩,
    ⟨(some 10), .bin .mul (.t 9) (.c (.pv (.int .i64 (65536)))), none, 7⟩,
    ⟨(some 2), .mv (.t 10), none, 15⟩] false)
  (.ret))
  (.skip)))
 (.seq (.reg [⟨(some 11), .faddr (.t 1) 0, none, 0⟩,
   ⟨(some 12), .faddr (.t 11) 2, none, 1⟩,
   ⟨(some 13), .load false 1 (.t 12), none, 3⟩,
   ⟨(some 2), .mv (.t 13), none, 7⟩] false)
 (.ret)))⟩
def c124 : RFn := ⟨2, 15, [.cell 4 true 7, .tmp 5],
 .seq (.reg [⟨(some 4), .alloc [.pv (.int .i64 (0)), .pv (.bool false), .pv (.int .i64 (0)), .pv (.str []), .pv (.int .i64 (0)), .pv (.int .i64 (0)), .pv (.int .i64 (0))], none, 0⟩,
   ⟨(some 5), .mv (.c (.pv (.int .i64 (0)))), none, 0⟩] false)
 (.seq (.reg [⟨(some 7), .mv (.t 1), none, 0⟩,
   ⟨(some 8), .mv (.t 0), none, 0⟩,
   ⟨(some 9), .call (.t 7) [.t 8], none, 3⟩,
   ⟨(some 6), .alloc [.pv (.int .i64 (0)), .pv (.bool false), .pv (.int .i64 (0)), .pv (.str []), .pv (.int .i64 (0)), .pv (.int .i64 (0)), .pv (.int .i64 (0))], none, 0⟩,
   ⟨none, .store 7 (.t 6) (.t 9), none, 15⟩] false)
 (.seq (.seq (.reg [⟨(some 10), .load true 7 (.t 6), none, 0⟩,
   ⟨(some 11), .call (.f 66) [.t 10], none, 1⟩,
   ⟨(some 12), .bin .neq (.t 11) (.c (.pv (.int .i64 (0)))), none, 3⟩] false)
 (.cond (.t 12)
  (.seq (.reg [⟨(some 13), .build [.pv (.int .i64 (0)), .pv (.bool false), .pv (.int .i64 (0)), .pv (.str []), .pv (.int .i64 (0)), .pv (.int .i64 (0)), .pv (.int .i64 (0))] [], none, 0⟩,
    ⟨none, .store 7 (.t 4) (.t 13), none, 1⟩,
    ⟨(some 5), .mv (.c (.pv (.int .i64 (2)))), none, 3⟩] false)
  (.ret))
  (.skip)))
 (.seq (.reg [⟨(some 14), .load true 7 (.t 6), none, 0⟩,
   ⟨none, .store 7 (.t 4) (.t 14), none, 1⟩,
   ⟨(some 5), .mv (.c (.pv (.int .i64 (0)))), none, 3⟩] false)
 (.ret))))⟩
def c125 : RFn := ⟨1, 5, [.cell 2 true 7],
 .seq (.reg [⟨(some 2), .alloc [.pv (.int .i64 (0)), .pv (.bool false), .pv (.int .i64 (0)), .pv (.str []), .pv (.int .i64 (0)), .pv (.int .i64 (0)), .pv (.int .i64 (0))], none, 0⟩] false)
 (.seq (.reg [⟨(some 3), .mv (.t 0), none, 0⟩,
   ⟨(some 4), .build [.pv (.int .i64 (0)), .pv (.bool false), .pv (.int .i64 (0)), .pv (.str []), .pv (.int .i64 (0)), .pv (.int .i64 (0)), .pv (.int .i64 (0))] [(0, 1, .c (.pv (.int .i64 (3)))), (2, 1, .t 3)], none, 1⟩,
   ⟨none, .store 7 (.t 2) (.t 4), none, 3⟩] false)
 (.ret))⟩
end Go.Ab.Rk
