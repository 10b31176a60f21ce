/- The code of functions of the program, printed by a program. Under: nothing. -/
import Derived.Test.YthpnccneaaeomaaCkCodes0
namespace Go.Ab.Ck
open Go.Ab
def c67 : RFn := ⟨2, 90, [.tmp 4],
 .seq (.reg [⟨(some 2), .box 57 (.t 0), none, 0⟩,
   ⟨(some 3), .box 57 (.t 1), none, 0⟩,
   ⟨(some 4), .mv (.c (.pv (.bool false))), none, 0⟩] false)
 (.seq (.reg [⟨(some 5), .faddr (.t 2) 0, none, 0⟩,
   ⟨(some 6), .load true 6 (.t 5), none, 1⟩,
   ⟨(some 7), .faddr (.t 3) 0, none, 0⟩,
   ⟨(some 8), .load true 6 (.t 7), none, 4⟩,
   ⟨(some 9), .eqs false [0, 0, 0, 0, 0, 0] (.t 6) (.t 8), none, 15⟩,
   ⟨(some 10), .mv (.t 9), none, 31⟩,
   ⟨(some 11), .faddr (.t 2) 6, (some (10, true)), 63⟩,
   ⟨(some 12), .load false 1 (.t 11), (some (10, true)), 127⟩,
   ⟨(some 13), .slen (.t 12), (some (10, true)), 255⟩,
   ⟨(some 14), .faddr (.t 3) 6, (some (10, true)), 63⟩,
   ⟨(some 15), .load false 1 (.t 14), (some (10, true)), 575⟩,
   ⟨(some 16), .slen (.t 15), (some (10, true)), 1599⟩,
   ⟨(some 17), .bin .eql (.t 13) (.t 16), (some (10, true)), 4095⟩,
   ⟨(some 18), .pick (.t 10) (.t 17) (.c (.pv (.bool false))), none, 8191⟩,
   ⟨(some 19), .mv (.t 18), none, 16383⟩,
   ⟨(some 20), .faddr (.t 2) 7, (some (19, true)), 32767⟩,
   ⟨(some 21), .faddr (.t 20) 0, (some (19, true)), 65535⟩,
   ⟨(some 22), .load false 1 (.t 21), (some (19, true)), 131071⟩,
   ⟨(some 23), .faddr (.t 3) 7, (some (19, true)), 32767⟩,
   ⟨(some 24), .faddr (.t 23) 0, (some (19, true)), 294911⟩,
   ⟨(some 25), .load false 1 (.t 24), (some (19, true)), 819199⟩,
   ⟨(some 26), .bin .eql (.t 22) (.t 25), (some (19, true)), 2097151⟩,
   ⟨(some 27), .pick (.t 19) (.t 26) (.c (.pv (.bool false))), none, 4194303⟩,
   ⟨(some 28), .mv (.t 27), none, 8388607⟩,
   ⟨(some 29), .faddr (.t 2) 7, (some (28, true)), 16777215⟩,
   ⟨(some 30), .faddr (.t 29) 1, (some (28, true)), 33554431⟩,
   ⟨(some 31), .load true 4 (.t 30), (some (28, true)), 67108863⟩,
   ⟨(some 32), .faddr (.t 3) 7, (some (28, true)), 16777215⟩,
   ⟨(some 33), .faddr (.t 32) 1, (some (28, true)), 150994943⟩,
   ⟨(some 34), .load true 4 (.t 33), (some (28, true)), 419430399⟩,
   ⟨(some 35), .eqs false [0, 0, 0, 0] (.t 31) (.t 34), (some (28, true)), 1073741823⟩,
   ⟨(some 36), .pick (.t 28) (.t 35) (.c (.pv (.bool false))), none, 2147483647⟩,
   ⟨(some 37), .mv (.t 36), none, 4294967295⟩,
   ⟨(some 38), .faddr (.t 2) 34, (some (37, true)), 8589934591⟩,
   ⟨(some 39), .faddr (.t 38) 0, (some (37, true)), 17179869183⟩,
   ⟨(some 40), .load false 1 (.t 39), (some (37, true)), 34359738367⟩,
   ⟨(some 41), .faddr (.t 3) 34, (some (37, true)), 8589934591⟩,
   ⟨(some 42), .faddr (.t 41) 0, (some (37, true)), 77309411327⟩,
   ⟨(some 43), .load false 1 (.t 42), (some (37, true)), 214748364799⟩,
   ⟨(some 44), .bin .eql (.t 40) (.t 43), (some (37, true)), 549755813887⟩,
   ⟨(some 45), .pick (.t 37) (.t 44) (.c (.pv (.bool false))), none, 1099511627775⟩,
   ⟨(some 46), .mv (.t 45), none, 2199023255551⟩,
   ⟨(some 47), .faddr (.t 2) 40, (some (46, true)), 4398046511103⟩,
   ⟨(some 48), .load false 1 (.t 47), (some (46, true)), 8796093022207⟩,
   ⟨(some 49), .faddr (.t 3) 40, (some (46, true)), 4398046511103⟩,
   ⟨(some 50), .load false 1 (.t 49), (some (46, true)), 21990232555519⟩,
   ⟨(some 51), .bin .eql (.t 48) (.t 50), (some (46, true)), 70368744177663⟩,
   ⟨(some 52), .pick (.t 46) (.t 51) (.c (.pv (.bool false))), none, 140737488355327⟩,
   ⟨(some 53), .mv (.t 52), none, 281474976710655⟩,
   ⟨(some 54), .faddr (.t 2) 41, (some (53, true)), 562949953421311⟩,
   ⟨(some 55), .load false 1 (.t 54), (some (53, true)), 1125899906842623⟩,
   ⟨(some 56), .slen (.t 55), (some (53, true)), 2251799813685247⟩,
   ⟨(some 57), .faddr (.t 3) 41, (some (53, true)), 562949953421311⟩,
   ⟨(some 58), .load false 1 (.t 57), (some (53, true)), 5066549580791807⟩,
   ⟨(some 59), .slen (.t 58), (some (53, true)), 14073748835532799⟩,
   ⟨(some 60), .bin .eql (.t 56) (.t 59), (some (53, true)), 36028797018963967⟩,
   ⟨(some 61), .pick (.t 53) (.t 60) (.c (.pv (.bool false))), none, 72057594037927935⟩,
   ⟨(some 62), .mv (.t 61), none, 144115188075855871⟩,
   ⟨(some 63), .faddr (.t 2) 42, (some (62, true)), 288230376151711743⟩,
   ⟨(some 64), .load true 7 (.t 63), (some (62, true)), 576460752303423487⟩,
   ⟨(some 65), .faddr (.t 3) 42, (some (62, true)), 288230376151711743⟩,
   ⟨(some 66), .load true 7 (.t 65), (some (62, true)), 1441151880758558719⟩,
   ⟨(some 67), .eqs false [0, 1, 0, 2, 0, 0, 0] (.t 64) (.t 66), (some (62, true)), 4611686018427387903⟩,
   ⟨(some 68), .pick (.t 62) (.t 67) (.c (.pv (.bool false))), none, 9223372036854775807⟩,
   ⟨(some 69), .mv (.t 68), none, 18446744073709551615⟩,
   ⟨(some 70), .faddr (.t 2) 49, (some (69, true)), 36893488147419103231⟩,
   ⟨(some 71), .load true 6 (.t 70), (some (69, true)), 73786976294838206463⟩,
   ⟨(some 72), .faddr (.t 3) 49, (some (69, true)), 36893488147419103231⟩,
   ⟨(some 73), .load true 6 (.t 72), (some (69, true)), 184467440737095516159⟩,
   ⟨(some 74), .eqs false [0, 0, 0, 0, 0, 0] (.t 71) (.t 73), (some (69, true)), 590295810358705651711⟩,
   ⟨(some 75), .pick (.t 69) (.t 74) (.c (.pv (.bool false))), none, 1180591620717411303423⟩,
   ⟨(some 76), .mv (.t 75), none, 2361183241434822606847⟩,
   ⟨(some 77), .faddr (.t 2) 55, (some (76, true)), 4722366482869645213695⟩,
   ⟨(some 78), .load false 1 (.t 77), (some (76, true)), 9444732965739290427391⟩,
   ⟨(some 79), .faddr (.t 3) 55, (some (76, true)), 4722366482869645213695⟩,
   ⟨(some 80), .load false 1 (.t 79), (some (76, true)), 23611832414348226068479⟩,
   ⟨(some 81), .bin .eql (.t 78) (.t 80), (some (76, true)), 75557863725914323419135⟩,
   ⟨(some 82), .pick (.t 76) (.t 81) (.c (.pv (.bool false))), none, 151115727451828646838271⟩,
   ⟨(some 83), .mv (.t 82), none, 302231454903657293676543⟩,
   ⟨(some 84), .faddr (.t 2) 56, (some (83, true)), 604462909807314587353087⟩,
   ⟨(some 85), .load false 1 (.t 84), (some (83, true)), 1208925819614629174706175⟩,
   ⟨(some 86), .faddr (.t 3) 56, (some (83, true)), 604462909807314587353087⟩,
   ⟨(some 87), .load false 1 (.t 86), (some (83, true)), 3022314549036572936765439⟩,
   ⟨(some 88), .bin .eql (.t 85) (.t 87), (some (83, true)), 9671406556917033397649407⟩,
   ⟨(some 89), .pick (.t 83) (.t 88) (.c (.pv (.bool false))), none, 19342813113834066795298815⟩,
   ⟨(some 4), .mv (.t 89), none, 38685626227668133590597631⟩] false)
 (.ret))⟩
def c69 : RFn := ⟨2, 24, [.tmp 4, .tmp 5, .tmp 6],
 .seq (.reg [⟨(some 3), .box 7 (.t 1), none, 0⟩,
   ⟨(some 4), .mv (.c (.emp 7)), none, 0⟩,
   ⟨(some 5), .mv (.c (.pv (.int .i64 (0)))), none, 2⟩,
   ⟨(some 6), .mv (.c (.pv (.int .i64 (0)))), none, 6⟩] false)
 (.seq (.seq (.reg [⟨(some 7), .mv (.t 0), none, 0⟩,
   ⟨(some 8), .call (.f 108) [.t 7], none, 1⟩,
   ⟨(some 9), .load true 7 (.t 3), none, 0⟩,
   ⟨(some 10), .call (.f 109) [.t 9], none, 7⟩,
   ⟨(some 11), .bin .add (.t 8) (.t 10), none, 15⟩,
   ⟨(some 12), .bin .gtr (.t 11) (.c (.pv (.int .i64 (20000)))), none, 31⟩] true)
 (.cond (.t 12)
  (.seq (.reg [⟨(some 4), .mv (.c (.emp 7)), none, 0⟩,
    ⟨(some 5), .mv (.c (.pv (.int .i64 (0)))), none, 1⟩,
    ⟨(some 6), .mv (.c (.pv (.int .i64 (27)))), none, 3⟩] false)
  (.ret))
  (.skip)))
 (.seq (.reg [⟨(some 13), .mv (.t 0), none, 0⟩,
   ⟨(some 14), .mv (.t 0), none, 0⟩,
   ⟨(some 15), .slen (.t 14), none, 2⟩,
   ⟨(some 16), .mv (.t 0), none, 0⟩,
   ⟨(some 17), .slen (.t 16), none, 8⟩,
   ⟨(some 18), .slice 7 (.t 13) none (some (.t 15)) (some (.t 17)), none, 31⟩,
   ⟨(some 19), .load true 7 (.t 3), none, 0⟩,
   ⟨(some 20), .bsl 7 1 [.pv (.int .i64 (0)), .pv (.str []), .emp 7, .emp 7, .emp 7, .pv (.int .i64 (0)), .pv (.int .i64 (0))] [(0, .t 19)], none, 64⟩,
   ⟨(some 21), .append 7 112 (.t 18) (.t 20), none, 255⟩,
   ⟨(some 22), .mv (.t 0), none, 0⟩,
   ⟨(some 23), .slen (.t 22), none, 512⟩,
   ⟨(some 4), .mv (.t 21), none, 511⟩,
   ⟨(some 5), .mv (.t 23), none, 4095⟩,
   ⟨(some 6), .mv (.c (.pv (.int .i64 (0)))), none, 8191⟩] true)
 (.ret)))⟩
def c76 : RFn := ⟨2, 27, [.cell 4 true 67, .tmp 5],
 .seq (.reg [⟨(some 2), .box 67 (.t 0), none, 0⟩,
   ⟨(some 4), .alloc [.emp 7, .emp 7, .emp 7, .emp 3, .pv (.int .i64 (0)), .pv (.int .i64 (0)), .pv (.int .i64 (0)), .pv (.int .i64 (0)), .pv (.int .i64 (0)), .pv (.int .i64 (0)), .pv (.int .i64 (0)), .emp 7, .pv (.int .i64 (0)), .pv (.int .i64 (0)), .pv (.int .i64 (0)), .pv (.int .i64 (0)), .pv (.int .i64 (0)), .pv (.int .i64 (0)), .pv (.int .i64 (0)), .pv (.int .i64 (0)), .pv (.int .i64 (0)), .pv (.int .i64 (0)), .pv (.int .i64 (0)), .pv (.int .i64 (0)), .pv (.int .i64 (0)), .pv (.int .i64 (0)), .pv (.int .i64 (0)), .pv (.int .i64 (0)), .pv (.int .i64 (0)), .pv (.int .i64 (0)), .pv (.int .i64 (0)), .pv (.int .i64 (0)), .pv (.bool false), .pv (.bool false), .emp 47, .pv (.int .i64 (0)), .pv (.int .i64 (0)), .pv (.int .i64 (0)), .pv (.int .i64 (0)), .pv (.int .i64 (0)), .pv (.int .i64 (0)), .pv (.int .i64 (0)), .pv (.int .i64 (0)), .emp 1, .pv (.int .i64 (0)), .pv (.int .i64 (0)), .emp 2, .pv (.int .i64 (0)), .pv (.bool false), .pv (.int .i64 (0)), .pv (.str []), .pv (.int .i64 (0)), .pv (.int .i64 (0)), .pv (.int .i64 (0)), .pv (.int .i64 (0)), .pv (.int .i64 (0)), .pv (.int .i64 (0)), .pv (.int .i64 (0)), .pv (.int .i64 (0)), .pv (.int .i64 (0)), .pv (.int .i64 (0)), .pv (.int .i64 (0)), .emp 57, .emp 47, .emp 3, .pv (.str []), .pv (.int .i64 (0))], none, 0⟩,
   ⟨(some 5), .mv (.c (.pv (.int .i64 (0)))), none, 0⟩] false)
 (.seq (.seq (.reg [⟨(some 6), .faddr (.t 2) 0, none, 0⟩,
   ⟨(some 7), .load false 1 (.t 6), none, 1⟩,
   ⟨(some 8), .slen (.t 7), none, 3⟩,
   ⟨(some 9), .mv (.t 1), none, 0⟩,
   ⟨(some 10), .slen (.t 9), none, 8⟩,
   ⟨(some 11), .bin .add (.t 8) (.t 10), none, 31⟩,
   ⟨(some 12), .bin .gtr (.t 11) (.c (.pv (.int .i64 (100)))), none, 63⟩] false)
 (.cond (.t 12)
  (.seq (.reg [⟨(some 13), .load true 67 (.t 2), none, 0⟩,
    ⟨none, .store 67 (.t 4) (.t 13), none, 1⟩,
    ⟨(some 5), .mv (.c (.pv (.int .i64 (21)))), none, 3⟩] false)
  (.ret))
  (.skip)))
 (.seq (.reg [⟨(some 14), .faddr (.t 2) 0, none, 0⟩,
   ⟨(some 15), .load false 1 (.t 14), none, 1⟩,
   ⟨(some 16), .faddr (.t 2) 0, none, 0⟩,
   ⟨(some 17), .load false 1 (.t 16), none, 4⟩,
   ⟨(some 18), .slen (.t 17), none, 12⟩,
   ⟨(some 19), .faddr (.t 2) 0, none, 0⟩,
   ⟨(some 20), .load false 1 (.t 19), none, 32⟩,
   ⟨(some 21), .slen (.t 20), none, 96⟩,
   ⟨(some 22), .slice 7 (.t 15) none (some (.t 18)) (some (.t 21)), none, 255⟩,
   ⟨(some 23), .mv (.t 1), none, 0⟩,
   ⟨(some 24), .append 7 64 (.t 22) (.t 23), none, 1023⟩,
   ⟨(some 25), .faddr (.t 2) 0, none, 2047⟩,
   ⟨none, .store 1 (.t 25) (.t 24), none, 4095⟩] false)
 (.seq (.reg [⟨(some 26), .load true 67 (.t 2), none, 0⟩,
   ⟨none, .store 67 (.t 4) (.t 26), none, 1⟩,
   ⟨(some 5), .mv (.c (.pv (.int .i64 (0)))), none, 3⟩] false)
 (.ret))))⟩
def c81 : RFn := ⟨2, 51, [.tmp 4],
 .seq (.reg [⟨(some 3), .box 7 (.t 1), none, 0⟩,
   ⟨(some 4), .mv (.c (.pv (.bool false))), none, 0⟩] false)
 (.seq (.seq (.reg [⟨(some 6), .load true 7 (.t 3), none, 0⟩,
   ⟨(some 7), .call (.f 116) [.t 6], none, 1⟩,
   ⟨(some 8), .bin .neq (.t 7) (.c (.pv (.int .i64 (0)))), none, 3⟩] false)
 (.cond (.t 8)
  (.seq (.reg [⟨(some 4), .mv (.c (.pv (.bool false))), none, 0⟩] false)
  (.ret))
  (.skip)))
 (.seq (.reg [⟨(some 9), .faddr (.t 3) 0, none, 0⟩,
   ⟨(some 10), .load false 1 (.t 9), none, 1⟩,
   ⟨(some 11), .call (.f 117) [.t 10], none, 3⟩,
   ⟨(some 5), .mv (.t 11), none, 7⟩] false)
 (.seq (.seq (.reg [⟨(some 12), .mv (.t 5), none, 0⟩,
   ⟨(some 13), .bin .eql (.t 12) (.c (.pv (.int .i64 (0)))), none, 1⟩] false)
 (.cond (.t 13)
  (.seq (.reg [⟨(some 4), .mv (.c (.pv (.bool true))), none, 0⟩] false)
  (.ret))
  (.skip)))
 (.seq (.seq (.reg [⟨(some 14), .faddr (.t 3) 4, none, 0⟩,
   ⟨(some 15), .load false 1 (.t 14), none, 1⟩,
   ⟨(some 16), .mv (.t 0), none, 0⟩,
   ⟨(some 17), .slen (.t 16), none, 4⟩,
   ⟨(some 18), .bin .geq (.t 15) (.t 17), none, 15⟩,
   ⟨(some 19), .mv (.t 18), none, 31⟩,
   ⟨(some 20), .mv (.t 0), (some (19, false)), 63⟩,
   ⟨(some 21), .faddr (.t 3) 4, (some (19, false)), 63⟩,
   ⟨(some 22), .load false 1 (.t 21), (some (19, false)), 191⟩,
   ⟨(some 23), .iaddr 7 (.t 20) (.t 22), (some (19, false)), 511⟩,
   ⟨(some 24), .faddr (.t 23) 0, (some (19, false)), 1023⟩,
   ⟨(some 25), .load false 1 (.t 24), (some (19, false)), 2047⟩,
   ⟨(some 26), .mv (.t 5), (some (19, false)), 63⟩,
   ⟨(some 27), .bin .neq (.t 25) (.t 26), (some (19, false)), 8191⟩,
   ⟨(some 28), .pick (.t 19) (.c (.pv (.bool true))) (.t 27), none, 16383⟩] false)
 (.cond (.t 28)
  (.seq (.reg [⟨(some 4), .mv (.c (.pv (.bool false))), none, 0⟩] false)
  (.ret))
  (.skip)))
 (.seq (.reg [⟨(some 29), .faddr (.t 3) 0, none, 0⟩,
   ⟨(some 30), .load false 1 (.t 29), none, 1⟩,
   ⟨(some 31), .bin .eql (.t 30) (.c (.pv (.int .i64 (9)))), none, 3⟩,
   ⟨(some 32), .mv (.t 31), none, 7⟩,
   ⟨(some 33), .faddr (.t 3) 0, (some (32, false)), 15⟩,
   ⟨(some 34), .load false 1 (.t 33), (some (32, false)), 31⟩,
   ⟨(some 35), .bin .eql (.t 34) (.c (.pv (.int .i64 (11)))), (some (32, false)), 63⟩,
   ⟨(some 36), .pick (.t 32) (.c (.pv (.bool true))) (.t 35), none, 127⟩,
   ⟨(some 37), .mv (.t 36), none, 255⟩,
   ⟨(some 38), .faddr (.t 3) 5, (some (37, false)), 511⟩,
   ⟨(some 39), .load false 1 (.t 38), (some (37, false)), 1023⟩,
   ⟨(some 40), .faddr (.t 3) 6, (some (37, false)), 511⟩,
   ⟨(some 41), .load false 1 (.t 40), (some (37, false)), 2559⟩,
   ⟨(some 42), .bin .add (.t 39) (.t 41), (some (37, false)), 8191⟩,
   ⟨(some 43), .mv (.t 0), (some (37, false)), 511⟩,
   ⟨(some 44), .faddr (.t 3) 4, (some (37, false)), 511⟩,
   ⟨(some 45), .load false 1 (.t 44), (some (37, false)), 33279⟩,
   ⟨(some 46), .iaddr 7 (.t 43) (.t 45), (some (37, false)), 115199⟩,
   ⟨(some 47), .load true 7 (.t 46), (some (37, false)), 246271⟩,
   ⟨(some 48), .call (.f 118) [.t 47], (some (37, false)), 508415⟩,
   ⟨(some 49), .bin .leq (.t 42) (.t 48), (some (37, false)), 1048575⟩,
   ⟨(some 50), .pick (.t 37) (.c (.pv (.bool true))) (.t 49), none, 2097151⟩,
   ⟨(some 4), .mv (.t 50), none, 4194303⟩] true)
 (.ret))))))⟩
def c83 : RFn := ⟨2, 27, [.tmp 4, .tmp 5],
 .seq (.reg [⟨(some 2), .box 67 (.t 0), none, 0⟩,
   ⟨(some 4), .mv (.c (.emp 7)), none, 0⟩,
   ⟨(some 5), .mv (.c (.pv (.int .i64 (0)))), none, 2⟩] false)
 (.seq (.seq (.reg [⟨(some 6), .mv (.t 1), none, 0⟩,
   ⟨(some 7), .bin .lss (.t 6) (.c (.pv (.int .i64 (0)))), none, 1⟩] false)
 (.cond (.t 7)
  (.seq (.reg [⟨(some 4), .mv (.c (.emp 7)), none, 0⟩,
    ⟨(some 5), .mv (.c (.pv (.int .i64 (2)))), none, 1⟩] false)
  (.ret))
  (.skip)))
 (.seq (.seq (.reg [⟨(some 8), .mv (.t 1), none, 0⟩,
   ⟨(some 9), .faddr (.t 2) 0, none, 0⟩,
   ⟨(some 10), .load false 1 (.t 9), none, 2⟩,
   ⟨(some 11), .slen (.t 10), none, 6⟩,
   ⟨(some 12), .bin .gtr (.t 8) (.t 11), none, 15⟩] false)
 (.cond (.t 12)
  (.seq (.reg [⟨(some 4), .mv (.c (.emp 7)), none, 0⟩,
    ⟨(some 5), .mv (.c (.pv (.int .i64 (20)))), none, 1⟩] false)
  (.ret))
  (.skip)))
 (.seq (.reg [⟨(some 13), .faddr (.t 2) 0, none, 0⟩,
   ⟨(some 14), .load false 1 (.t 13), none, 1⟩,
   ⟨(some 15), .faddr (.t 2) 0, none, 0⟩,
   ⟨(some 16), .load false 1 (.t 15), none, 4⟩,
   ⟨(some 17), .slen (.t 16), none, 12⟩,
   ⟨(some 18), .mv (.t 1), none, 0⟩,
   ⟨(some 19), .bin .sub (.t 17) (.t 18), none, 60⟩,
   ⟨(some 20), .faddr (.t 2) 0, none, 0⟩,
   ⟨(some 21), .load false 1 (.t 20), none, 128⟩,
   ⟨(some 22), .slen (.t 21), none, 384⟩,
   ⟨(some 23), .faddr (.t 2) 0, none, 0⟩,
   ⟨(some 24), .load false 1 (.t 23), none, 1024⟩,
   ⟨(some 25), .slen (.t 24), none, 3072⟩,
   ⟨(some 26), .slice 7 (.t 14) (some (.t 19)) (some (.t 22)) (some (.t 25)), none, 8191⟩,
   ⟨(some 4), .mv (.t 26), none, 16383⟩,
   ⟨(some 5), .mv (.c (.pv (.int .i64 (0)))), none, 32767⟩] false)
 (.ret))))⟩
def c86 : RFn := ⟨3, 23, [.cell 6 true 8, .tmp 7],
 .seq (.reg [⟨(some 4), .box 7 (.t 1), none, 0⟩,
   ⟨(some 6), .alloc [.emp 7, .pv (.int .i64 (0)), .pv (.bool false), .pv (.int .i64 (0)), .pv (.str []), .pv (.int .i64 (0)), .pv (.int .i64 (0)), .pv (.int .i64 (0))], none, 0⟩,
   ⟨(some 7), .mv (.c (.pv (.int .i64 (0)))), none, 0⟩] false)
 (.seq (.seq (.reg [⟨(some 8), .mv (.t 0), none, 0⟩,
   ⟨(some 9), .load true 7 (.t 4), none, 0⟩,
   ⟨(some 10), .call (.f 81) [.t 8, .t 9], none, 3⟩,
   ⟨(some 11), .not (.t 10), none, 7⟩] false)
 (.cond (.t 11)
  (.seq (.reg [⟨(some 12), .build [.emp 7, .pv (.int .i64 (0)), .pv (.bool false), .pv (.int .i64 (0)), .pv (.str []), .pv (.int .i64 (0)), .pv (.int .i64 (0)), .pv (.int .i64 (0))] [], none, 0⟩,
    ⟨none, .store 8 (.t 6) (.t 12), none, 1⟩,
    ⟨(some 7), .mv (.c (.pv (.int .i64 (2)))), none, 3⟩] false)
  (.ret))
  (.skip)))
 (.seq (.seq (.reg [⟨(some 13), .mv (.t 2), none, 0⟩,
   ⟨(some 14), .faddr (.t 4) 0, none, 0⟩,
   ⟨(some 15), .load false 1 (.t 14), none, 2⟩,
   ⟨(some 16), .call (.f 123) [.t 13, .t 15], none, 7⟩,
   ⟨(some 17), .not (.t 16), none, 15⟩] false)
 (.cond (.t 17)
  (.seq (.reg [⟨(some 18), .build [.emp 7, .pv (.int .i64 (0)), .pv (.bool false), .pv (.int .i64 (0)), .pv (.str []), .pv (.int .i64 (0)), .pv (.int .i64 (0)), .pv (.int .i64 (0))] [], none, 0⟩,
    ⟨none, .store 8 (.t 6) (.t 18), none, 1⟩,
    ⟨(some 7), .mv (.c (.pv (.int .i64 (22)))), none, 3⟩] false)
  (.ret))
  (.skip)))
 (.seq (.reg [⟨(some 19), .mv (.t 0), none, 0⟩,
   ⟨(some 20), .build [.emp 7] [(0, 1, .t 19)], none, 1⟩,
   ⟨(some 21), .load true 7 (.t 4), none, 0⟩,
   ⟨(some 22), .build [.emp 7, .pv (.int .i64 (0)), .pv (.bool false), .pv (.int .i64 (0)), .pv (.str []), .pv (.int .i64 (0)), .pv (.int .i64 (0)), .pv (.int .i64 (0))] [(0, 1, .t 20), (1, 7, .t 21)], none, 7⟩,
   ⟨none, .store 8 (.t 6) (.t 22), none, 15⟩,
   ⟨(some 7), .mv (.c (.pv (.int .i64 (0)))), none, 31⟩] false)
 (.ret))))⟩
def c87 : RFn := ⟨1, 11, [.cell 2 true 7],
 .seq (.reg [⟨(some 1), .box 8 (.t 0), none, 0⟩,
   ⟨(some 2), .alloc [.pv (.int .i64 (0)), .pv (.str []), .emp 7, .emp 7, .emp 7, .pv (.int .i64 (0)), .pv (.int .i64 (0))], none, 0⟩] false)
 (.seq (.reg [⟨(some 3), .faddr (.t 1) 0, none, 0⟩,
   ⟨(some 4), .faddr (.t 3) 0, none, 1⟩,
   ⟨(some 5), .load false 1 (.t 4), none, 3⟩,
   ⟨(some 6), .faddr (.t 1) 1, none, 0⟩,
   ⟨(some 7), .faddr (.t 6) 4, none, 8⟩,
   ⟨(some 8), .load false 1 (.t 7), none, 24⟩,
   ⟨(some 9), .iaddr 7 (.t 5) (.t 8), none, 63⟩,
   ⟨(some 10), .load true 7 (.t 9), none, 127⟩,
   ⟨none, .store 7 (.t 2) (.t 10), none, 255⟩] false)
 (.ret))⟩
def c88 : RFn := ⟨2, 52, [.tmp 4],
 .seq (.reg [⟨(some 2), .box 7 (.t 0), none, 0⟩,
   ⟨(some 3), .box 7 (.t 1), none, 0⟩,
   ⟨(some 4), .mv (.c (.pv (.bool false))), none, 0⟩] false)
 (.seq (.reg [⟨(some 5), .faddr (.t 2) 0, none, 0⟩,
   ⟨(some 6), .load false 1 (.t 5), none, 1⟩,
   ⟨(some 7), .faddr (.t 3) 0, none, 0⟩,
   ⟨(some 8), .load false 1 (.t 7), none, 4⟩,
   ⟨(some 9), .bin .eql (.t 6) (.t 8), none, 15⟩,
   ⟨(some 10), .mv (.t 9), none, 31⟩,
   ⟨(some 11), .faddr (.t 2) 1, (some (10, true)), 63⟩,
   ⟨(some 12), .load false 1 (.t 11), (some (10, true)), 127⟩,
   ⟨(some 13), .faddr (.t 3) 1, (some (10, true)), 63⟩,
   ⟨(some 14), .load false 1 (.t 13), (some (10, true)), 319⟩,
   ⟨(some 15), .bin .eql (.t 12) (.t 14), (some (10, true)), 1023⟩,
   ⟨(some 16), .pick (.t 10) (.t 15) (.c (.pv (.bool false))), none, 2047⟩,
   ⟨(some 17), .mv (.t 16), none, 4095⟩,
   ⟨(some 18), .faddr (.t 2) 2, (some (17, true)), 8191⟩,
   ⟨(some 19), .load false 1 (.t 18), (some (17, true)), 16383⟩,
   ⟨(some 20), .faddr (.t 3) 2, (some (17, true)), 8191⟩,
   ⟨(some 21), .load false 1 (.t 20), (some (17, true)), 40959⟩,
   ⟨(some 22), .call (.f 66) [.t 19, .t 21], (some (17, true)), 131071⟩,
   ⟨(some 23), .pick (.t 17) (.t 22) (.c (.pv (.bool false))), none, 262143⟩,
   ⟨(some 24), .mv (.t 23), none, 524287⟩,
   ⟨(some 25), .faddr (.t 2) 3, (some (24, true)), 1048575⟩,
   ⟨(some 26), .load false 1 (.t 25), (some (24, true)), 2097151⟩,
   ⟨(some 27), .faddr (.t 3) 3, (some (24, true)), 1048575⟩,
   ⟨(some 28), .load false 1 (.t 27), (some (24, true)), 5242879⟩,
   ⟨(some 29), .call (.f 66) [.t 26, .t 28], (some (24, true)), 16777215⟩,
   ⟨(some 30), .pick (.t 24) (.t 29) (.c (.pv (.bool false))), none, 33554431⟩,
   ⟨(some 31), .mv (.t 30), none, 67108863⟩,
   ⟨(some 32), .faddr (.t 2) 4, (some (31, true)), 134217727⟩,
   ⟨(some 33), .load false 1 (.t 32), (some (31, true)), 268435455⟩,
   ⟨(some 34), .faddr (.t 3) 4, (some (31, true)), 134217727⟩,
   ⟨(some 35), .load false 1 (.t 34), (some (31, true)), 671088639⟩,
   ⟨(some 36), .call (.f 66) [.t 33, .t 35], (some (31, true)), 2147483647⟩,
   ⟨(some 37), .pick (.t 31) (.t 36) (.c (.pv (.bool false))), none, 4294967295⟩,
   ⟨(some 38), .mv (.t 37), none, 8589934591⟩,
   ⟨(some 39), .faddr (.t 2) 5, (some (38, true)), 17179869183⟩,
   ⟨(some 40), .load false 1 (.t 39), (some (38, true)), 34359738367⟩,
   ⟨(some 41), .faddr (.t 3) 5, (some (38, true)), 17179869183⟩,
   ⟨(some 42), .load false 1 (.t 41), (some (38, true)), 85899345919⟩,
   ⟨(some 43), .bin .eql (.t 40) (.t 42), (some (38, true)), 274877906943⟩,
   ⟨(some 44), .pick (.t 38) (.t 43) (.c (.pv (.bool false))), none, 549755813887⟩,
   ⟨(some 45), .mv (.t 44), none, 1099511627775⟩,
   ⟨(some 46), .faddr (.t 2) 6, (some (45, true)), 2199023255551⟩,
   ⟨(some 47), .load false 1 (.t 46), (some (45, true)), 4398046511103⟩,
   ⟨(some 48), .faddr (.t 3) 6, (some (45, true)), 2199023255551⟩,
   ⟨(some 49), .load false 1 (.t 48), (some (45, true)), 10995116277759⟩,
   ⟨(some 50), .bin .eql (.t 47) (.t 49), (some (45, true)), 35184372088831⟩,
   ⟨(some 51), .pick (.t 45) (.t 50) (.c (.pv (.bool false))), none, 70368744177663⟩,
   ⟨(some 4), .mv (.t 51), none, 140737488355327⟩] false)
 (.ret))⟩
def c89 : RFn := ⟨2, 33, [.tmp 4, .tmp 5],
 .seq (.reg [⟨(some 2), .box 67 (.t 0), none, 0⟩,
   ⟨(some 4), .mv (.c (.pv (.int .i64 (0)))), none, 0⟩,
   ⟨(some 5), .mv (.c (.pv (.int .i64 (0)))), none, 2⟩] false)
 (.seq (.reg [⟨(some 10), .load true 67 (.t 2), none, 0⟩,
   ⟨(some 11), .bsl 1 1 [.pv (.int .i64 (0))] [(0, .c (.pv (.int .i64 (1))))], none, 0⟩,
   ⟨(some 12), .call (.f 94) [.t 10, .t 11], none, 3⟩,
   ⟨(some 9), .mv (.t 12), none, 7⟩,
   ⟨(some 13), .extract (.t 9) 0, none, 15⟩,
   ⟨(some 14), .extract (.t 9) 1, none, 15⟩,
   ⟨(some 6), .mv (.t 13), none, 31⟩,
   ⟨(some 7), .mv (.t 14), none, 127⟩] false)
 (.seq (.seq (.reg [⟨(some 15), .mv (.t 7), none, 0⟩,
   ⟨(some 16), .bin .neq (.t 15) (.c (.pv (.int .i64 (0)))), none, 1⟩] false)
 (.cond (.t 16)
  (.seq (.reg [⟨(some 17), .mv (.t 7), none, 0⟩,
    ⟨(some 4), .mv (.c (.pv (.int .i64 (0)))), none, 0⟩,
    ⟨(some 5), .mv (.t 17), none, 3⟩] false)
  (.ret))
  (.skip)))
 (.seq (.seq (.reg [⟨(some 18), .mv (.t 6), none, 0⟩,
   ⟨(some 19), .iaddr 7 (.t 18) (.c (.pv (.int .i64 (0)))), none, 1⟩,
   ⟨(some 20), .faddr (.t 19) 2, none, 3⟩,
   ⟨(some 21), .load false 1 (.t 20), none, 7⟩,
   ⟨(some 8), .mv (.t 21), none, 15⟩] false)
 (.block 0
  (.seq (.reg [⟨(some 23), .mv (.t 8), none, 0⟩,
    ⟨(some 24), .bin .lss (.t 23) (.c (.pv (.int .i64 (0)))), none, 1⟩,
    ⟨(some 22), .mv (.t 24), none, 3⟩] false)
  (.cond (.t 22)
   (.seq (.reg [⟨(some 4), .mv (.c (.pv (.int .i64 (0)))), none, 0⟩,
     ⟨(some 5), .mv (.c (.pv (.int .i64 (23)))), none, 1⟩] false)
   (.ret))
   (.seq (.reg [⟨(some 26), .mv (.t 8), none, 0⟩,
     ⟨(some 27), .mv (.t 1), none, 0⟩,
     ⟨(some 28), .bin .gtr (.t 26) (.t 27), none, 3⟩,
     ⟨(some 25), .mv (.t 28), none, 7⟩] false)
   (.cond (.t 25)
    (.seq (.reg [⟨(some 4), .mv (.c (.pv (.int .i64 (0)))), none, 0⟩,
      ⟨(some 5), .mv (.c (.pv (.int .i64 (26)))), none, 1⟩] false)
    (.ret))
    (.skip)))))))
 (.seq (.reg [⟨(some 29), .mv (.t 6), none, 0⟩,
   ⟨(some 30), .iaddr 7 (.t 29) (.c (.pv (.int .i64 (0)))), none, 1⟩,
   ⟨(some 31), .faddr (.t 30) 2, none, 3⟩,
   ⟨(some 32), .load false 1 (.t 31), none, 7⟩,
   ⟨(some 4), .mv (.t 32), none, 15⟩,
   ⟨(some 5), .mv (.c (.pv (.int .i64 (0)))), none, 31⟩] false)
 (.ret)))))⟩
def c90 : RFn := ⟨5, 41, [.cell 10 true 67, .tmp 11],
 .seq (.reg [⟨(some 5), .box 67 (.t 0), none, 0⟩,
   ⟨(some 7), .box 7 (.t 2), none, 0⟩,
   ⟨(some 10), .alloc [.emp 7, .emp 7, .emp 7, .emp 3, .pv (.int .i64 (0)), .pv (.int .i64 (0)), .pv (.int .i64 (0)), .pv (.int .i64 (0)), .pv (.int .i64 (0)), .pv (.int .i64 (0)), .pv (.int .i64 (0)), .emp 7, .pv (.int .i64 (0)), .pv (.int .i64 (0)), .pv (.int .i64 (0)), .pv (.int .i64 (0)), .pv (.int .i64 (0)), .pv (.int .i64 (0)), .pv (.int .i64 (0)), .pv (.int .i64 (0)), .pv (.int .i64 (0)), .pv (.int .i64 (0)), .pv (.int .i64 (0)), .pv (.int .i64 (0)), .pv (.int .i64 (0)), .pv (.int .i64 (0)), .pv (.int .i64 (0)), .pv (.int .i64 (0)), .pv (.int .i64 (0)), .pv (.int .i64 (0)), .pv (.int .i64 (0)), .pv (.int .i64 (0)), .pv (.bool false), .pv (.bool false), .emp 47, .pv (.int .i64 (0)), .pv (.int .i64 (0)), .pv (.int .i64 (0)), .pv (.int .i64 (0)), .pv (.int .i64 (0)), .pv (.int .i64 (0)), .pv (.int .i64 (0)), .pv (.int .i64 (0)), .emp 1, .pv (.int .i64 (0)), .pv (.int .i64 (0)), .emp 2, .pv (.int .i64 (0)), .pv (.bool false), .pv (.int .i64 (0)), .pv (.str []), .pv (.int .i64 (0)), .pv (.int .i64 (0)), .pv (.int .i64 (0)), .pv (.int .i64 (0)), .pv (.int .i64 (0)), .pv (.int .i64 (0)), .pv (.int .i64 (0)), .pv (.int .i64 (0)), .pv (.int .i64 (0)), .pv (.int .i64 (0)), .pv (.int .i64 (0)), .emp 57, .emp 47, .emp 3, .pv (.str []), .pv (.int .i64 (0))], none, 0⟩,
   ⟨(some 11), .mv (.c (.pv (.int .i64 (0)))), none, 0⟩] false)
 (.seq (.reg [⟨(some 16), .faddr (.t 5) 0, none, 0⟩,
   ⟨(some 17), .faddr (.t 16) 2, none, 1⟩,
   ⟨(some 18), .load false 1 (.t 17), none, 3⟩,
   ⟨(some 19), .mv (.t 4), none, 0⟩,
   ⟨(some 20), .mv (.t 3), none, 0⟩,
   ⟨(some 21), .call (.t 19) [.t 20], none, 24⟩,
   ⟨(some 22), .call (.f 69) [.t 18, .t 21], none, 63⟩,
   ⟨(some 15), .mv (.t 22), none, 127⟩,
   ⟨(some 23), .extract (.t 15) 0, none, 255⟩,
   ⟨(some 24), .extract (.t 15) 1, none, 255⟩,
   ⟨(some 25), .extract (.t 15) 2, none, 255⟩,
   ⟨(some 12), .mv (.t 23), none, 511⟩,
   ⟨(some 13), .mv (.t 24), none, 3071⟩,
   ⟨(some 14), .mv (.t 25), none, 8191⟩] true)
 (.seq (.seq (.reg [⟨(some 26), .mv (.t 14), none, 0⟩,
   ⟨(some 27), .bin .neq (.t 26) (.c (.pv (.int .i64 (0)))), none, 1⟩] false)
 (.cond (.t 27)
  (.seq (.reg [⟨(some 28), .faddr (.t 5) 0, none, 0⟩,
    ⟨(some 29), .load true 67 (.t 28), none, 1⟩,
    ⟨(some 30), .mv (.t 14), none, 0⟩,
    ⟨none, .store 67 (.t 10) (.t 29), none, 3⟩,
    ⟨(some 11), .mv (.t 30), none, 15⟩] false)
  (.ret))
  (.skip)))
 (.seq (.reg [⟨(some 31), .mv (.t 13), none, 0⟩,
   ⟨(some 32), .faddr (.t 7) 4, none, 1⟩,
   ⟨none, .store 1 (.t 32) (.t 31), none, 3⟩] false)
 (.seq (.reg [⟨(some 33), .load true 67 (.t 5), none, 0⟩,
   ⟨(some 34), .mv (.t 1), none, 0⟩,
   ⟨(some 35), .mv (.t 12), none, 0⟩,
   ⟨(some 36), .load true 7 (.t 7), none, 0⟩,
   ⟨(some 37), .bsl 7 1 [.pv (.int .i64 (0)), .pv (.bool false), .pv (.int .i64 (0)), .pv (.str []), .pv (.int .i64 (0)), .pv (.int .i64 (0)), .pv (.int .i64 (0))] [(0, .t 36)], none, 8⟩,
   ⟨(some 38), .call (.f 97) [.t 33, .t 34, .t 35, .t 37], none, 31⟩,
   ⟨(some 39), .extract (.t 38) 0, none, 63⟩,
   ⟨(some 40), .extract (.t 38) 1, none, 63⟩,
   ⟨none, .store 67 (.t 10) (.t 39), none, 255⟩,
   ⟨(some 11), .mv (.t 40), none, 511⟩] false)
 (.ret)))))⟩
def c91 : RFn := ⟨1, 5, [.cell 2 true 7],
 .seq (.reg [⟨(some 2), .alloc [.pv (.int .i64 (0)), .pv (.str []), .emp 7, .emp 7, .emp 7, .pv (.int .i64 (0)), .pv (.int .i64 (0))], none, 0⟩] false)
 (.seq (.reg [⟨(some 3), .mv (.t 0), none, 0⟩,
   ⟨(some 4), .build [.pv (.int .i64 (0)), .pv (.str []), .emp 7, .emp 7, .emp 7, .pv (.int .i64 (0)), .pv (.int .i64 (0))] [(0, 1, .c (.pv (.int .i64 (1)))), (1, 1, .t 3)], none, 1⟩,
   ⟨none, .store 7 (.t 2) (.t 4), none, 3⟩] false)
 (.ret))⟩
def c92 : RFn := ⟨5, 41, [.cell 10 true 67, .tmp 11],
 .seq (.reg [⟨(some 5), .box 67 (.t 0), none, 0⟩,
   ⟨(some 7), .box 7 (.t 2), none, 0⟩,
   ⟨(some 10), .alloc [.emp 7, .emp 7, .emp 7, .emp 3, .pv (.int .i64 (0)), .pv (.int .i64 (0)), .pv (.int .i64 (0)), .pv (.int .i64 (0)), .pv (.int .i64 (0)), .pv (.int .i64 (0)), .pv (.int .i64 (0)), .emp 7, .pv (.int .i64 (0)), .pv (.int .i64 (0)), .pv (.int .i64 (0)), .pv (.int .i64 (0)), .pv (.int .i64 (0)), .pv (.int .i64 (0)), .pv (.int .i64 (0)), .pv (.int .i64 (0)), .pv (.int .i64 (0)), .pv (.int .i64 (0)), .pv (.int .i64 (0)), .pv (.int .i64 (0)), .pv (.int .i64 (0)), .pv (.int .i64 (0)), .pv (.int .i64 (0)), .pv (.int .i64 (0)), .pv (.int .i64 (0)), .pv (.int .i64 (0)), .pv (.int .i64 (0)), .pv (.int .i64 (0)), .pv (.bool false), .pv (.bool false), .emp 47, .pv (.int .i64 (0)), .pv (.int .i64 (0)), .pv (.int .i64 (0)), .pv (.int .i64 (0)), .pv (.int .i64 (0)), .pv (.int .i64 (0)), .pv (.int .i64 (0)), .pv (.int .i64 (0)), .emp 1, .pv (.int .i64 (0)), .pv (.int .i64 (0)), .emp 2, .pv (.int .i64 (0)), .pv (.bool false), .pv (.int .i64 (0)), .pv (.str []), .pv (.int .i64 (0)), .pv (.int .i64 (0)), .pv (.int .i64 (0)), .pv (.int .i64 (0)), .pv (.int .i64 (0)), .pv (.int .i64 (0)), .pv (.int .i64 (0)), .pv (.int .i64 (0)), .pv (.int .i64 (0)), .pv (.int .i64 (0)), .pv (.int .i64 (0)), .emp 57, .emp 47, .emp 3, .pv (.str []), .pv (.int .i64 (0))], none, 0⟩,
   ⟨(some 11), .mv (.c (.pv (.int .i64 (0)))), none, 0⟩] false)
 (.seq (.reg [⟨(some 16), .faddr (.t 5) 0, none, 0⟩,
   ⟨(some 17), .faddr (.t 16) 2, none, 1⟩,
   ⟨(some 18), .load false 1 (.t 17), none, 3⟩,
   ⟨(some 19), .mv (.t 4), none, 0⟩,
   ⟨(some 20), .mv (.t 3), none, 0⟩,
   ⟨(some 21), .call (.t 19) [.t 20], none, 24⟩,
   ⟨(some 22), .call (.f 69) [.t 18, .t 21], none, 63⟩,
   ⟨(some 15), .mv (.t 22), none, 127⟩,
   ⟨(some 23), .extract (.t 15) 0, none, 255⟩,
   ⟨(some 24), .extract (.t 15) 1, none, 255⟩,
   ⟨(some 25), .extract (.t 15) 2, none, 255⟩,
   ⟨(some 12), .mv (.t 23), none, 511⟩,
   ⟨(some 13), .mv (.t 24), none, 3071⟩,
   ⟨(some 14), .mv (.t 25), none, 8191⟩] true)
 (.seq (.seq (.reg [⟨(some 26), .mv (.t 14), none, 0⟩,
   ⟨(some 27), .bin .neq (.t 26) (.c (.pv (.int .i64 (0)))), none, 1⟩] false)
 (.cond (.t 27)
  (.seq (.reg [⟨(some 28), .faddr (.t 5) 0, none, 0⟩,
    ⟨(some 29), .load true 67 (.t 28), none, 1⟩,
    ⟨(some 30), .mv (.t 14), none, 0⟩,
    ⟨none, .store 67 (.t 10) (.t 29), none, 3⟩,
    ⟨(some 11), .mv (.t 30), none, 15⟩] false)
  (.ret))
  (.skip)))
 (.seq (.reg [⟨(some 31), .mv (.t 13), none, 0⟩,
   ⟨(some 32), .faddr (.t 7) 4, none, 1⟩,
   ⟨none, .store 1 (.t 32) (.t 31), none, 3⟩] false)
 (.seq (.reg [⟨(some 33), .load true 67 (.t 5), none, 0⟩,
   ⟨(some 34), .mv (.t 1), none, 0⟩,
   ⟨(some 35), .mv (.t 12), none, 0⟩,
   ⟨(some 36), .load true 7 (.t 7), none, 0⟩,
   ⟨(some 37), .bsl 7 1 [.pv (.int .i64 (0)), .pv (.bool false), .pv (.int .i64 (0)), .pv (.str []), .pv (.int .i64 (0)), .pv (.int .i64 (0)), .pv (.int .i64 (0))] [(0, .t 36)], none, 8⟩,
   ⟨(some 38), .call (.f 97) [.t 33, .t 34, .t 35, .t 37], none, 31⟩,
   ⟨(some 39), .extract (.t 38) 0, none, 63⟩,
   ⟨(some 40), .extract (.t 38) 1, none, 63⟩,
   ⟨none, .store 67 (.t 10) (.t 39), none, 255⟩,
   ⟨(some 11), .mv (.t 40), none, 511⟩] false)
 (.ret)))))⟩
def c93 : RFn := ⟨1, 5, [.cell 2 true 7],
 .seq (.reg [⟨(some 2), .alloc [.pv (.int .i64 (0)), .pv (.str []), .emp 7, .emp 7, .emp 7, .pv (.int .i64 (0)), .pv (.int .i64 (0))], none, 0⟩] false)
 (.seq (.reg [⟨(some 3), .mv (.t 0), none, 0⟩,
   ⟨(some 4), .build [.pv (.int .i64 (0)), .pv (.str []), .emp 7, .emp 7, .emp 7, .pv (.int .i64 (0)), .pv (.int .i64 (0))] [(0, 1, .c (.pv (.int .i64 (2)))), (2, 1, .t 3)], none, 1⟩,
   ⟨none, .store 7 (.t 2) (.t 4), none, 3⟩] false)
 (.ret))⟩
def c94 : RFn := ⟨2, 40, [.tmp 4, .tmp 5],
 .seq (.reg [⟨(some 2), .box 67 (.t 0), none, 0⟩,
   ⟨(some 4), .mv (.c (.emp 7)), none, 0⟩,
   ⟨(some 5), .mv (.c (.pv (.int .i64 (0)))), none, 2⟩] false)
 (.scope
  (.seq (.reg [⟨(some 11), .faddr (.t 2) 0, none, 0⟩,
    ⟨(some 12), .load true 67 (.t 11), none, 1⟩,
    ⟨(some 13), .mv (.t 1), none, 0⟩,
    ⟨(some 14), .slen (.t 13), none, 4⟩,
    ⟨(some 15), .call (.f 83) [.t 12, .t 14], none, 15⟩,
    ⟨(some 10), .mv (.t 15), none, 31⟩,
    ⟨(some 16), .extract (.t 10) 0, none, 63⟩,
    ⟨(some 17), .extract (.t 10) 1, none, 63⟩,
    ⟨(some 6), .mv (.t 16), none, 127⟩,
    ⟨(some 7), .mv (.t 17), none, 511⟩] false)
  (.seq (.seq (.reg [⟨(some 18), .mv (.t 7), none, 0⟩,
    ⟨(some 19), .bin .neq (.t 18) (.c (.pv (.int .i64 (0)))), none, 1⟩] false)
  (.cond (.t 19)
   (.seq (.reg [⟨(some 20), .mv (.t 7), none, 0⟩,
     ⟨(some 4), .mv (.c (.emp 7)), none, 0⟩,
     ⟨(some 5), .mv (.t 20), none, 3⟩] false)
   (.ret))
   (.skip)))
  (.seq (.skip)
  (.seq (.seq (.reg [⟨(some 21), .mv (.t 6), none, 0⟩,
    ⟨(some 22), .slen (.t 21), none, 1⟩,
    ⟨(some 23), .mv (.c (.pv (.int .i64 (0)))), none, 0⟩] false)
  (.block 0
   (.loop [1, 6, 7, 21, 22, 23]
    (.seq (.reg [⟨(some 24), .bin .lss (.t 23) (.t 22), none, 0⟩] false)
    (.seq (.cond (.t 24)
     (.skip)
     (.exit 0))
    (.seq (.block 1
     (.seq (.reg [⟨(some 25), .mv (.t 23), none, 0⟩,
       ⟨(some 26), .iaddr 7 (.t 21) (.t 23), none, 0⟩,
       ⟨(some 27), .load true 7 (.t 26), none, 2⟩,
       ⟨(some 9), .alloc [.pv (.int .i64 (0)), .pv (.bool false), .pv (.int .i64 (0)), .pv (.str []), .pv (.int .i64 (0)), .pv (.int .i64 (0)), .pv (.int .i64 (0))], none, 0⟩,
       ⟨(some 8), .mv (.t 25), none, 15⟩,
       ⟨none, .store 7 (.t 9) (.t 27), none, 31⟩] false)
     (.seq (.reg [⟨(some 28), .mv (.t 1), none, 0⟩,
       ⟨(some 29), .mv (.t 8), none, 0⟩,
       ⟨(some 30), .iaddr 1 (.t 28) (.t 29), none, 3⟩,
       ⟨(some 31), .load false 1 (.t 30), none, 7⟩,
       ⟨(some 32), .load true 7 (.t 9), none, 0⟩,
       ⟨(some 33), .call (.f 124) [.t 31, .t 32], none, 31⟩,
       ⟨(some 34), .not (.t 33), none, 63⟩] true)
     (.cond (.t 34)
      (.seq (.reg [⟨(some 7), .mv (.c (.pv (.int .i64 (22)))), none, 0⟩] false)
      (.exit 0))
      (.skip)))))
    (.reg [⟨(some 35), .bin .add (.t 23) (.c (.pv (.int .i64 (1)))), none, 0⟩,
      ⟨(some 23), .mv (.t 35), none, 1⟩] false)))))))
  (.seq (.seq (.reg [⟨(some 36), .mv (.t 7), none, 0⟩,
    ⟨(some 37), .bin .neq (.t 36) (.c (.pv (.int .i64 (0)))), none, 1⟩] false)
  (.cond (.t 37)
   (.seq (.reg [⟨(some 38), .mv (.t 7), none, 0⟩,
     ⟨(some 4), .mv (.c (.emp 7)), none, 0⟩,
     ⟨(some 5), .mv (.t 38), none, 3⟩] false)
   (.ret))
   (.skip)))
  (.seq (.reg [⟨(some 39), .mv (.t 6), none, 0⟩,
    ⟨(some 4), .mv (.t 39), none, 1⟩,
    ⟨(some 5), .mv (.c (.pv (.int .i64 (0)))), none, 3⟩] false)
  (.ret))))))))⟩
def c95 : RFn := ⟨3, 38, [.tmp 6, .tmp 7],
 .seq (.reg [⟨(some 3), .box 67 (.t 0), none, 0⟩,
   ⟨(some 6), .mv (.c (.emp 7)), none, 0⟩,
   ⟨(some 7), .mv (.c (.pv (.int .i64 (0)))), none, 2⟩] false)
 (.seq (.seq (.reg [⟨(some 10), .mv (.t 2), none, 0⟩,
   ⟨(some 11), .faddr (.t 3) 0, none, 0⟩,
   ⟨(some 12), .faddr (.t 11) 0, none, 2⟩,
   ⟨(some 13), .load false 1 (.t 12), none, 6⟩,
   ⟨(some 14), .slen (.t 13), none, 14⟩,
   ⟨(some 15), .mv (.t 1), none, 0⟩,
   ⟨(some 16), .bin .sub (.t 14) (.t 15), none, 62⟩,
   ⟨(some 17), .bin .gtr (.t 10) (.t 16), none, 127⟩] false)
 (.cond (.t 17)
  (.seq (.reg [⟨(some 6), .mv (.c (.emp 7)), none, 0⟩,
    ⟨(some 7), .mv (.c (.pv (.int .i64 (20)))), none, 1⟩] false)
  (.ret))
  (.skip)))
 (.seq (.reg [⟨(some 18), .faddr (.t 3) 0, none, 0⟩,
   ⟨(some 19), .faddr (.t 18) 0, none, 1⟩,
   ⟨(some 20), .load false 1 (.t 19), none, 3⟩,
   ⟨(some 21), .slen (.t 20), none, 7⟩,
   ⟨(some 22), .mv (.t 1), none, 0⟩,
   ⟨(some 23), .bin .sub (.t 21) (.t 22), none, 31⟩,
   ⟨(some 8), .mv (.t 23), none, 63⟩] false)
 (.seq (.reg [⟨(some 24), .mv (.t 2), none, 0⟩,
   ⟨(some 25), .mksl 7 64 [.int .i64 (0), .bool false, .int .i64 (0), .str [], .int .i64 (0), .int .i64 (0), .int .i64 (0)] (.t 24), none, 1⟩,
   ⟨(some 9), .mv (.t 25), none, 3⟩] false)
 (.seq (.reg [⟨(some 26), .mv (.t 9), none, 0⟩,
   ⟨(some 27), .faddr (.t 3) 0, none, 0⟩,
   ⟨(some 28), .faddr (.t 27) 0, none, 2⟩,
   ⟨(some 29), .load false 1 (.t 28), none, 6⟩,
   ⟨(some 30), .mv (.t 8), none, 0⟩,
   ⟨(some 31), .mv (.t 2), none, 0⟩,
   ⟨(some 32), .bin .sub (.t 30) (.t 31), none, 48⟩,
   ⟨(some 33), .mv (.t 8), none, 0⟩,
   ⟨(some 34), .mv (.t 8), none, 0⟩,
   ⟨(some 35), .slice 7 (.t 29) (some (.t 32)) (some (.t 33)) (some (.t 34)), none, 510⟩,
   ⟨(some 36), .copy 7 (.t 26) (.t 35), none, 1023⟩] false)
 (.seq (.reg [⟨(some 37), .mv (.t 9), none, 0⟩,
   ⟨(some 6), .mv (.t 37), none, 1⟩,
   ⟨(some 7), .mv (.c (.pv (.int .i64 (0)))), none, 3⟩] false)
 (.ret))))))⟩
def c96 : RFn := ⟨2, 33, [.tmp 4, .tmp 5],
 .seq (.reg [⟨(some 3), .box 7 (.t 1), none, 0⟩,
   ⟨(some 4), .mv (.c (.pv (.int .i64 (0)))), none, 0⟩,
   ⟨(some 5), .mv (.c (.pv (.int .i64 (0)))), none, 2⟩] false)
 (.seq (.reg [⟨(some 9), .mv (.t 0), none, 0⟩,
   ⟨(some 10), .load true 7 (.t 3), none, 0⟩,
   ⟨(some 11), .bsl 1 5 [.pv (.int .i64 (0))] [(0, .c (.pv (.int .i64 (6)))), (1, .c (.pv (.int .i64 (7)))), (2, .c (.pv (.int .i64 (8)))), (3, .c (.pv (.int .i64 (9)))), (4, .c (.pv (.int .i64 (5))))], none, 0⟩,
   ⟨(some 12), .call (.f 86) [.t 9, .t 10, .t 11], none, 7⟩,
   ⟨(some 8), .mv (.t 12), none, 15⟩,
   ⟨(some 13), .extract (.t 8) 0, none, 31⟩,
   ⟨(some 14), .extract (.t 8) 1, none, 31⟩,
   ⟨(some 6), .alloc [.emp 7, .pv (.int .i64 (0)), .pv (.bool false), .pv (.int .i64 (0)), .pv (.str []), .pv (.int .i64 (0)), .pv (.int .i64 (0)), .pv (.int .i64 (0))], none, 0⟩,
   ⟨none, .store 8 (.t 6) (.t 13), none, 191⟩,
   ⟨(some 7), .mv (.t 14), none, 511⟩] false)
 (.seq (.seq (.reg [⟨(some 15), .mv (.t 7), none, 0⟩,
   ⟨(some 16), .bin .neq (.t 15) (.c (.pv (.int .i64 (0)))), none, 1⟩] false)
 (.cond (.t 16)
  (.seq (.reg [⟨(some 17), .mv (.t 7), none, 0⟩,
    ⟨(some 4), .mv (.c (.pv (.int .i64 (0)))), none, 0⟩,
    ⟨(some 5), .mv (.t 17), none, 3⟩] false)
  (.ret))
  (.skip)))
 (.seq (.seq (.reg [⟨(some 18), .faddr (.t 3) 0, none, 0⟩,
   ⟨(some 19), .load false 1 (.t 18), none, 1⟩] false)
 (.block 0
  (.seq (.reg [⟨(some 21), .bin .eql (.t 19) (.c (.pv (.int .i64 (9)))), none, 0⟩,
    ⟨(some 20), .mv (.t 21), none, 1⟩] false)
  (.cond (.t 20)
   (.seq (.reg [⟨(some 22), .load true 8 (.t 6), none, 0⟩,
     ⟨(some 23), .call (.f 87) [.t 22], none, 1⟩,
     ⟨(some 24), .field false 3 1 (.t 23), none, 3⟩,
     ⟨(some 25), .slen (.t 24), none, 7⟩,
     ⟨(some 4), .mv (.t 25), none, 15⟩,
     ⟨(some 5), .mv (.c (.pv (.int .i64 (0)))), none, 31⟩] false)
   (.ret))
   (.seq (.reg [⟨(some 27), .bin .eql (.t 19) (.c (.pv (.int .i64 (5)))), none, 0⟩,
     ⟨(some 26), .mv (.t 27), none, 1⟩] false)
   (.cond (.t 26)
    (.seq (.reg [⟨(some 28), .faddr (.t 3) 3, none, 0⟩,
      ⟨(some 29), .load false 1 (.t 28), none, 1⟩,
      ⟨(some 30), .strlen (.t 29), none, 3⟩,
      ⟨(some 4), .mv (.t 30), none, 7⟩,
      ⟨(some 5), .mv (.c (.pv (.int .i64 (0)))), none, 15⟩] false)
    (.ret))
    (.skip)))))))
 (.seq (.reg [⟨(some 31), .faddr (.t 3) 6, none, 0⟩,
   ⟨(some 32), .load false 1 (.t 31), none, 1⟩,
   ⟨(some 4), .mv (.t 32), none, 3⟩,
   ⟨(some 5), .mv (.c (.pv (.int .i64 (0)))), none, 7⟩] false)
 (.ret)))))⟩
def c97 : RFn := ⟨4, 39, [.cell 8 true 67, .tmp 9],
 .seq (.reg [⟨(some 4), .box 67 (.t 0), none, 0⟩,
   ⟨(some 8), .alloc [.emp 7, .emp 7, .emp 7, .emp 3, .pv (.int .i64 (0)), .pv (.int .i64 (0)), .pv (.int .i64 (0)), .pv (.int .i64 (0)), .pv (.int .i64 (0)), .pv (.int .i64 (0)), .pv (.int .i64 (0)), .emp 7, .pv (.int .i64 (0)), .pv (.int .i64 (0)), .pv (.int .i64 (0)), .pv (.int .i64 (0)), .pv (.int .i64 (0)), .pv (.int .i64 (0)), .pv (.int .i64 (0)), .pv (.int .i64 (0)), .pv (.int .i64 (0)), .pv (.int .i64 (0)), .pv (.int .i64 (0)), .pv (.int .i64 (0)), .pv (.int .i64 (0)), .pv (.int .i64 (0)), .pv (.int .i64 (0)), .pv (.int .i64 (0)), .pv (.int .i64 (0)), .pv (.int .i64 (0)), .pv (.int .i64 (0)), .pv (.int .i64 (0)), .pv (.bool false), .pv (.bool false), .emp 47, .pv (.int .i64 (0)), .pv (.int .i64 (0)), .pv (.int .i64 (0)), .pv (.int .i64 (0)), .pv (.int .i64 (0)), .pv (.int .i64 (0)), .pv (.int .i64 (0)), .pv (.int .i64 (0)), .emp 1, .pv (.int .i64 (0)), .pv (.int .i64 (0)), .emp 2, .pv (.int .i64 (0)), .pv (.bool false), .pv (.int .i64 (0)), .pv (.str []), .pv (.int .i64 (0)), .pv (.int .i64 (0)), .pv (.int .i64 (0)), .pv (.int .i64 (0)), .pv (.int .i64 (0)), .pv (.int .i64 (0)), .pv (.int .i64 (0)), .pv (.int .i64 (0)), .pv (.int .i64 (0)), .pv (.int .i64 (0)), .pv (.int .i64 (0)), .emp 57, .emp 47, .emp 3, .pv (.str []), .pv (.int .i64 (0))], none, 0⟩,
   ⟨(some 9), .mv (.c (.pv (.int .i64 (0)))), none, 0⟩] false)
 (.seq (.reg [⟨(some 14), .faddr (.t 4) 0, none, 0⟩,
   ⟨(some 15), .load true 67 (.t 14), none, 1⟩,
   ⟨(some 16), .mv (.t 1), none, 0⟩,
   ⟨(some 17), .call (.f 110) [.t 15, .t 16], none, 7⟩,
   ⟨(some 13), .mv (.t 17), none, 15⟩,
   ⟨(some 18), .extract (.t 13) 0, none, 31⟩,
   ⟨(some 19), .extract (.t 13) 1, none, 31⟩,
   ⟨(some 10), .alloc [.emp 7, .emp 7, .emp 7, .emp 3, .pv (.int .i64 (0)), .pv (.int .i64 (0)), .pv (.int .i64 (0)), .pv (.int .i64 (0)), .pv (.int .i64 (0)), .pv (.int .i64 (0)), .pv (.int .i64 (0)), .emp 7, .pv (.int .i64 (0)), .pv (.int .i64 (0)), .pv (.int .i64 (0)), .pv (.int .i64 (0)), .pv (.int .i64 (0)), .pv (.int .i64 (0)), .pv (.int .i64 (0)), .pv (.int .i64 (0)), .pv (.int .i64 (0)), .pv (.int .i64 (0)), .pv (.int .i64 (0)), .pv (.int .i64 (0)), .pv (.int .i64 (0)), .pv (.int .i64 (0)), .pv (.int .i64 (0)), .pv (.int .i64 (0)), .pv (.int .i64 (0)), .pv (.int .i64 (0)), .pv (.int .i64 (0)), .pv (.int .i64 (0)), .pv (.bool false), .pv (.bool false), .emp 47, .pv (.int .i64 (0)), .pv (.int .i64 (0)), .pv (.int .i64 (0)), .pv (.int .i64 (0)), .pv (.int .i64 (0)), .pv (.int .i64 (0)), .pv (.int .i64 (0)), .pv (.int .i64 (0)), .emp 1, .pv (.int .i64 (0)), .pv (.int .i64 (0)), .emp 2, .pv (.int .i64 (0)), .pv (.bool false), .pv (.int .i64 (0)), .pv (.str []), .pv (.int .i64 (0)), .pv (.int .i64 (0)), .pv (.int .i64 (0)), .pv (.int .i64 (0)), .pv (.int .i64 (0)), .pv (.int .i64 (0)), .pv (.int .i64 (0)), .pv (.int .i64 (0)), .pv (.int .i64 (0)), .pv (.int .i64 (0)), .pv (.int .i64 (0)), .emp 57, .emp 47, .emp 3, .pv (.str []), .pv (.int .i64 (0))], none, 0⟩,
   ⟨none, .store 67 (.t 10) (.t 18), none, 191⟩,
   ⟨(some 11), .mv (.t 19), none, 511⟩] false)
 (.seq (.seq (.reg [⟨(some 20), .mv (.t 11), none, 0⟩,
   ⟨(some 21), .bin .neq (.t 20) (.c (.pv (.int .i64 (0)))), none, 1⟩] false)
 (.cond (.t 21)
  (.seq (.reg [⟨(some 22), .faddr (.t 4) 0, none, 0⟩,
    ⟨(some 23), .load true 67 (.t 22), none, 1⟩,
    ⟨(some 24), .mv (.t 11), none, 0⟩,
    ⟨none, .store 67 (.t 8) (.t 23), none, 3⟩,
    ⟨(some 9), .mv (.t 24), none, 15⟩] false)
  (.ret))
  (.skip)))
 (.seq (.reg [⟨(some 26), .load true 67 (.t 10), none, 0⟩,
   ⟨(some 27), .mv (.t 3), none, 0⟩,
   ⟨(some 28), .call (.f 76) [.t 26, .t 27], none, 3⟩,
   ⟨(some 25), .mv (.t 28), none, 7⟩,
   ⟨(some 29), .extract (.t 25) 0, none, 15⟩,
   ⟨(some 30), .extract (.t 25) 1, none, 15⟩,
   ⟨(some 12), .alloc [.emp 7, .emp 7, .emp 7, .emp 3, .pv (.int .i64 (0)), .pv (.int .i64 (0)), .pv (.int .i64 (0)), .pv (.int .i64 (0)), .pv (.int .i64 (0)), .pv (.int .i64 (0)), .pv (.int .i64 (0)), .emp 7, .pv (.int .i64 (0)), .pv (.int .i64 (0)), .pv (.int .i64 (0)), .pv (.int .i64 (0)), .pv (.int .i64 (0)), .pv (.int .i64 (0)), .pv (.int .i64 (0)), .pv (.int .i64 (0)), .pv (.int .i64 (0)), .pv (.int .i64 (0)), .pv (.int .i64 (0)), .pv (.int .i64 (0)), .pv (.int .i64 (0)), .pv (.int .i64 (0)), .pv (.int .i64 (0)), .pv (.int .i64 (0)), .pv (.int .i64 (0)), .pv (.int .i64 (0)), .pv (.int .i64 (0)), .pv (.int .i64 (0)), .pv (.bool false), .pv (.bool false), .emp 47, .pv (.int .i64 (0)), .pv (.int .i64 (0)), .pv (.int .i64 (0)), .pv (.int .i64 (0)), .pv (.int .i64 (0)), .pv (.int .i64 (0)), .pv (.int .i64 (0)), .pv (.int .i64 (0)), .emp 1, .pv (.int .i64 (0)), .pv (.int .i64 (0)), .emp 2, .pv (.int .i64 (0)), .pv (.bool false), .pv (.int .i64 (0)), .pv (.str []), .pv (.int .i64 (0)), .pv (.int .i64 (0)), .pv (.int .i64 (0)), .pv (.int .i64 (0)), .pv (.int .i64 (0)), .pv (.int .i64 (0)), .pv (.int .i64 (0)), .pv (.int .i64 (0)), .pv (.int .i64 (0)), .pv (.int .i64 (0)), .pv (.int .i64 (0)), .emp 57, .emp 47, .emp 3, .pv (.str []), .pv (.int .i64 (0))], none, 0⟩,
   ⟨none, .store 67 (.t 12) (.t 29), none, 95⟩,
   ⟨(some 11), .mv (.t 30), none, 255⟩] false)
 (.seq (.seq (.reg [⟨(some 31), .mv (.t 11), none, 0⟩,
   ⟨(some 32), .bin .neq (.t 31) (.c (.pv (.int .i64 (0)))), none, 1⟩] false)
 (.cond (.t 32)
  (.seq (.reg [⟨(some 33), .faddr (.t 4) 0, none, 0⟩,
    ⟨(some 34), .load true 67 (.t 33), none, 1⟩,
    ⟨(some 35), .mv (.t 11), none, 0⟩,
    ⟨none, .store 67 (.t 8) (.t 34), none, 3⟩,
    ⟨(some 9), .mv (.t 35), none, 15⟩] false)
  (.ret))
  (.skip)))
 (.seq (.reg [⟨(some 36), .mv (.t 2), none, 0⟩,
   ⟨(some 37), .faddr (.t 12) 2, none, 1⟩,
   ⟨none, .store 1 (.t 37) (.t 36), none, 3⟩] false)
 (.seq (.reg [⟨(some 38), .load true 67 (.t 12), none, 0⟩,
   ⟨none, .store 67 (.t 8) (.t 38), none, 1⟩,
   ⟨(some 9), .mv (.c (.pv (.int .i64 (0)))), none, 3⟩] false)
 (.ret)))))))⟩
def c98 : RFn := ⟨1, 5, [.cell 2 true 7],
 .seq (.reg [⟨(some 2), .alloc [.pv (.int .i64 (0)), .pv (.bool false), .pv (.int .i64 (0)), .pv (.str []), .pv (.int .i64 (0)), .pv (.int .i64 (0)), .pv (.int .i64 (0))], none, 0⟩] false)
 (.seq (.reg [⟨(some 3), .mv (.t 0), none, 0⟩,
   ⟨(some 4), .build [.pv (.int .i64 (0)), .pv (.bool false), .pv (.int .i64 (0)), .pv (.str []), .pv (.int .i64 (0)), .pv (.int .i64 (0)), .pv (.int .i64 (0))] [(0, 1, .c (.pv (.int .i64 (3)))), (2, 1, .t 3)], none, 1⟩,
   ⟨none, .store 7 (.t 2) (.t 4), none, 3⟩] false)
 (.ret))⟩
def c99 : RFn := ⟨3, 55, [.cell 6 true 7, .tmp 7],
 .seq (.reg [⟨(some 3), .box 7 (.t 0), none, 0⟩,
   ⟨(some 6), .alloc [.pv (.int .i64 (0)), .pv (.bool false), .pv (.int .i64 (0)), .pv (.str []), .pv (.int .i64 (0)), .pv (.int .i64 (0)), .pv (.int .i64 (0))], none, 0⟩,
   ⟨(some 7), .mv (.c (.pv (.int .i64 (0)))), none, 0⟩] false)
 (.seq (.seq (.reg [⟨(some 8), .load true 7 (.t 3), none, 0⟩,
   ⟨(some 9), .call (.f 116) [.t 8], none, 1⟩,
   ⟨(some 10), .bin .neq (.t 9) (.c (.pv (.int .i64 (0)))), none, 3⟩] false)
 (.cond (.t 10)
  (.seq (.reg [⟨(some 11), .build [.pv (.int .i64 (0)), .pv (.bool false), .pv (.int .i64 (0)), .pv (.str []), .pv (.int .i64 (0)), .pv (.int .i64 (0)), .pv (.int .i64 (0))] [], none, 0⟩,
    ⟨none, .store 7 (.t 6) (.t 11), none, 1⟩,
    ⟨(some 7), .mv (.c (.pv (.int .i64 (2)))), none, 3⟩] false)
  (.ret))
  (.skip)))
 (.seq (.seq (.reg [⟨(some 12), .faddr (.t 3) 0, none, 0⟩,
   ⟨(some 13), .load false 1 (.t 12), none, 1⟩,
   ⟨(some 14), .bin .neq (.t 13) (.c (.pv (.int .i64 (6)))), none, 3⟩,
   ⟨(some 15), .mv (.t 14), none, 7⟩,
   ⟨(some 16), .faddr (.t 3) 0, (some (15, true)), 15⟩,
   ⟨(some 17), .load false 1 (.t 16), (some (15, true)), 31⟩,
   ⟨(some 18), .bin .neq (.t 17) (.c (.pv (.int .i64 (7)))), (some (15, true)), 63⟩,
   ⟨(some 19), .pick (.t 15) (.t 18) (.c (.pv (.bool false))), none, 127⟩,
   ⟨(some 20), .mv (.t 19), none, 255⟩,
   ⟨(some 21), .faddr (.t 3) 0, (some (20, true)), 511⟩,
   ⟨(some 22), .load false 1 (.t 21), (some (20, true)), 1023⟩,
   ⟨(some 23), .bin .neq (.t 22) (.c (.pv (.int .i64 (8)))), (some (20, true)), 2047⟩,
   ⟨(some 24), .pick (.t 20) (.t 23) (.c (.pv (.bool false))), none, 4095⟩] false)
 (.cond (.t 24)
  (.seq (.reg [⟨(some 25), .build [.pv (.int .i64 (0)), .pv (.bool false), .pv (.int .i64 (0)), .pv (.str []), .pv (.int .i64 (0)), .pv (.int .i64 (0)), .pv (.int .i64 (0))] [], none, 0⟩,
    ⟨none, .store 7 (.t 6) (.t 25), none, 1⟩,
    ⟨(some 7), .mv (.c (.pv (.int .i64 (22)))), none, 3⟩] false)
  (.ret))
  (.skip)))
 (.seq (.seq (.reg [⟨(some 26), .mv (.t 1), none, 0⟩,
   ⟨(some 27), .bin .lss (.t 26) (.c (.pv (.int .i64 (0)))), none, 1⟩,
   ⟨(some 28), .mv (.t 27), none, 3⟩,
   ⟨(some 29), .mv (.t 2), (some (28, false)), 7⟩,
   ⟨(some 30), .bin .lss (.t 29) (.c (.pv (.int .i64 (0)))), (some (28, false)), 15⟩,
   ⟨(some 31), .pick (.t 28) (.c (.pv (.bool true))) (.t 30), none, 31⟩,
   ⟨(some 32), .mv (.t 31), none, 63⟩,
   ⟨(some 33), .mv (.t 1), (some (32, false)), 127⟩,
   ⟨(some 34), .faddr (.t 3) 6, (some (32, false)), 127⟩,
   ⟨(some 35), .load false 1 (.t 34), (some (32, false)), 383⟩,
   ⟨(some 36), .bin .gtr (.t 33) (.t 35), (some (32, false)), 1023⟩,
   ⟨(some 37), .pick (.t 32) (.c (.pv (.bool true))) (.t 36), none, 2047⟩,
   ⟨(some 38), .mv (.t 37), none, 4095⟩,
   ⟨(some 39), .mv (.t 2), (some (38, false)), 8191⟩,
   ⟨(some 40), .faddr (.t 3) 6, (some (38, false)), 8191⟩,
   ⟨(some 41), .load false 1 (.t 40), (some (38, false)), 24575⟩,
   ⟨(some 42), .mv (.t 1), (some (38, false)), 8191⟩,
   ⟨(some 43), .bin .sub (.t 41) (.t 42), (some (38, false)), 122879⟩,
   ⟨(some 44), .bin .gtr (.t 39) (.t 43), (some (38, false)), 262143⟩,
   ⟨(some 45), .pick (.t 38) (.c (.pv (.bool true))) (.t 44), none, 524287⟩] false)
 (.cond (.t 45)
  (.seq (.reg [⟨(some 46), .build [.pv (.int .i64 (0)), .pv (.bool false), .pv (.int .i64 (0)), .pv (.str []), .pv (.int .i64 (0)), .pv (.int .i64 (0)), .pv (.int .i64 (0))] [], none, 0⟩,
    ⟨none, .store 7 (.t 6) (.t 46), none, 1⟩,
    ⟨(some 7), .mv (.c (.pv (.int .i64 (23)))), none, 3⟩] false)
  (.ret))
  (.skip)))
 (.seq (.reg [⟨(some 47), .faddr (.t 3) 5, none, 0⟩,
   ⟨(some 48), .load false 1 (.t 47), none, 1⟩,
   ⟨(some 49), .mv (.t 1), none, 0⟩,
   ⟨(some 50), .bin .add (.t 48) (.t 49), none, 7⟩,
   ⟨(some 51), .mv (.t 2), none, 0⟩,
   ⟨(some 52), .faddr (.t 3) 5, none, 15⟩,
   ⟨none, .store 1 (.t 52) (.t 50), none, 47⟩,
   ⟨(some 53), .faddr (.t 3) 6, none, 127⟩,
   ⟨none, .store 1 (.t 53) (.t 51), none, 255⟩] false)
 (.seq (.reg [⟨(some 54), .load true 7 (.t 3), none, 0⟩,
   ⟨none, .store 7 (.t 6) (.t 54), none, 1⟩,
   ⟨(some 7), .mv (.c (.pv (.int .i64 (0)))), none, 3⟩] false)
 (.ret))))))⟩
def c100 : RFn := ⟨4, 47, [.tmp 8, .tmp 9],
 .seq (.reg [⟨(some 5), .box 7 (.t 1), none, 0⟩,
   ⟨(some 8), .mv (.c (.emp 7)), none, 0⟩,
   ⟨(some 9), .mv (.c (.pv (.int .i64 (0)))), none, 2⟩] false)
 (.seq (.reg [⟨(some 14), .mv (.t 0), none, 0⟩,
   ⟨(some 15), .load true 7 (.t 5), none, 0⟩,
   ⟨(some 16), .bsl 1 1 [.pv (.int .i64 (0))] [(0, .c (.pv (.int .i64 (6))))], none, 0⟩,
   ⟨(some 17), .call (.f 86) [.t 14, .t 15, .t 16], none, 7⟩,
   ⟨(some 13), .mv (.t 17), none, 15⟩,
   ⟨(some 18), .extract (.t 13) 0, none, 31⟩,
   ⟨(some 19), .extract (.t 13) 1, none, 31⟩,
   ⟨(some 10), .alloc [.emp 7, .pv (.int .i64 (0)), .pv (.bool false), .pv (.int .i64 (0)), .pv (.str []), .pv (.int .i64 (0)), .pv (.int .i64 (0)), .pv (.int .i64 (0))], none, 0⟩,
   ⟨none, .store 8 (.t 10) (.t 18), none, 191⟩,
   ⟨(some 11), .mv (.t 19), none, 511⟩] false)
 (.seq (.seq (.reg [⟨(some 20), .mv (.t 11), none, 0⟩,
   ⟨(some 21), .bin .eql (.t 20) (.c (.pv (.int .i64 (0)))), none, 1⟩] false)
 (.cond (.t 21)
  (.reg [⟨(some 22), .load true 8 (.t 10), none, 0⟩,
    ⟨(some 23), .mv (.t 2), none, 0⟩,
    ⟨(some 24), .mv (.t 3), none, 0⟩,
    ⟨(some 25), .strlen (.t 24), none, 4⟩,
    ⟨(some 26), .call (.f 125) [.t 22, .t 23, .t 25], none, 15⟩,
    ⟨(some 11), .mv (.t 26), none, 31⟩] false)
  (.skip)))
 (.seq (.seq (.reg [⟨(some 27), .mv (.t 11), none, 0⟩,
   ⟨(some 28), .bin .neq (.t 27) (.c (.pv (.int .i64 (0)))), none, 1⟩] false)
 (.cond (.t 28)
  (.seq (.reg [⟨(some 29), .mv (.t 11), none, 0⟩,
    ⟨(some 8), .mv (.c (.emp 7)), none, 0⟩,
    ⟨(some 9), .mv (.t 29), none, 3⟩] false)
  (.ret))
  (.skip)))
 (.seq (.reg [⟨(some 30), .load true 8 (.t 10), none, 0⟩,
   ⟨(some 31), .call (.f 87) [.t 30], none, 1⟩,
   ⟨(some 12), .alloc [.pv (.int .i64 (0)), .pv (.str []), .emp 7, .emp 7, .emp 7, .pv (.int .i64 (0)), .pv (.int .i64 (0))], none, 0⟩,
   ⟨none, .store 7 (.t 12) (.t 31), none, 7⟩] false)
 (.seq (.reg [⟨(some 32), .faddr (.t 12) 1, none, 0⟩,
   ⟨(some 33), .load false 1 (.t 32), none, 1⟩,
   ⟨(some 34), .s2b (.t 33), none, 3⟩,
   ⟨(some 35), .faddr (.t 5) 5, none, 0⟩,
   ⟨(some 36), .load false 1 (.t 35), none, 8⟩,
   ⟨(some 37), .mv (.t 2), none, 0⟩,
   ⟨(some 38), .bin .add (.t 36) (.t 37), none, 56⟩,
   ⟨(some 39), .mv (.t 3), none, 0⟩,
   ⟨(some 40), .s2b (.t 39), none, 128⟩,
   ⟨(some 41), .call (.f 126) [.t 34, .t 38, .t 40], none, 511⟩,
   ⟨(some 42), .b2s (.t 41), none, 1023⟩,
   ⟨(some 43), .faddr (.t 12) 1, none, 2047⟩,
   ⟨none, .store 1 (.t 43) (.t 42), none, 4095⟩] false)
 (.seq (.reg [⟨(some 44), .load true 8 (.t 10), none, 0⟩,
   ⟨(some 45), .load true 7 (.t 12), none, 0⟩,
   ⟨(some 46), .call (.f 115) [.t 44, .t 45], none, 3⟩,
   ⟨(some 8), .mv (.t 46), none, 7⟩,
   ⟨(some 9), .mv (.c (.pv (.int .i64 (0)))), none, 15⟩] false)
 (.ret)))))))⟩
def c101 : RFn := ⟨4, 51, [.tmp 8, .tmp 9],
 .seq (.reg [⟨(some 5), .box 7 (.t 1), none, 0⟩,
   ⟨(some 8), .mv (.c (.emp 7)), none, 0⟩,
   ⟨(some 9), .mv (.c (.pv (.int .i64 (0)))), none, 2⟩] false)
 (.seq (.reg [⟨(some 14), .mv (.t 0), none, 0⟩,
   ⟨(some 15), .load true 7 (.t 5), none, 0⟩,
   ⟨(some 16), .bsl 1 2 [.pv (.int .i64 (0))] [(0, .c (.pv (.int .i64 (7)))), (1, .c (.pv (.int .i64 (8))))], none, 0⟩,
   ⟨(some 17), .call (.f 86) [.t 14, .t 15, .t 16], none, 7⟩,
   ⟨(some 13), .mv (.t 17), none, 15⟩,
   ⟨(some 18), .extract (.t 13) 0, none, 31⟩,
   ⟨(some 19), .extract (.t 13) 1, none, 31⟩,
   ⟨(some 10), .alloc [.emp 7, .pv (.int .i64 (0)), .pv (.bool false), .pv (.int .i64 (0)), .pv (.str []), .pv (.int .i64 (0)), .pv (.int .i64 (0)), .pv (.int .i64 (0))], none, 0⟩,
   ⟨none, .store 8 (.t 10) (.t 18), none, 191⟩,
   ⟨(some 11), .mv (.t 19), none, 511⟩] false)
 (.seq (.seq (.reg [⟨(some 20), .mv (.t 11), none, 0⟩,
   ⟨(some 21), .bin .eql (.t 20) (.c (.pv (.int .i64 (0)))), none, 1⟩,
   ⟨(some 22), .mv (.t 21), none, 3⟩,
   ⟨(some 23), .faddr (.t 5) 0, (some (22, true)), 7⟩,
   ⟨(some 24), .load false 1 (.t 23), (some (22, true)), 15⟩,
   ⟨(some 25), .bin .eql (.t 24) (.c (.pv (.int .i64 (8)))), (some (22, true)), 31⟩,
   ⟨(some 26), .pick (.t 22) (.t 25) (.c (.pv (.bool false))), none, 63⟩] false)
 (.cond (.t 26)
  (.reg [⟨(some 11), .mv (.c (.pv (.int .i64 (31)))), none, 0⟩] false)
  (.skip)))
 (.seq (.seq (.reg [⟨(some 27), .mv (.t 11), none, 0⟩,
   ⟨(some 28), .bin .eql (.t 27) (.c (.pv (.int .i64 (0)))), none, 1⟩] false)
 (.cond (.t 28)
  (.reg [⟨(some 29), .load true 8 (.t 10), none, 0⟩,
    ⟨(some 30), .mv (.t 2), none, 0⟩,
    ⟨(some 31), .mv (.t 3), none, 0⟩,
    ⟨(some 32), .slen (.t 31), none, 4⟩,
    ⟨(some 33), .call (.f 125) [.t 29, .t 30, .t 32], none, 15⟩,
    ⟨(some 11), .mv (.t 33), none, 31⟩] false)
  (.skip)))
 (.seq (.seq (.reg [⟨(some 34), .mv (.t 11), none, 0⟩,
   ⟨(some 35), .bin .neq (.t 34) (.c (.pv (.int .i64 (0)))), none, 1⟩] false)
 (.cond (.t 35)
  (.seq (.reg [⟨(some 36), .mv (.t 11), none, 0⟩,
    ⟨(some 8), .mv (.c (.emp 7)), none, 0⟩,
    ⟨(some 9), .mv (.t 36), none, 3⟩] false)
  (.ret))
  (.skip)))
 (.seq (.reg [⟨(some 37), .load true 8 (.t 10), none, 0⟩,
   ⟨(some 38), .call (.f 87) [.t 37], none, 1⟩,
   ⟨(some 12), .alloc [.pv (.int .i64 (0)), .pv (.str []), .emp 7, .emp 7, .emp 7, .pv (.int .i64 (0)), .pv (.int .i64 (0))], none, 0⟩,
   ⟨none, .store 7 (.t 12) (.t 38), none, 7⟩] false)
 (.seq (.reg [⟨(some 39), .faddr (.t 12) 2, none, 0⟩,
   ⟨(some 40), .load false 1 (.t 39), none, 1⟩,
   ⟨(some 41), .faddr (.t 5) 5, none, 0⟩,
   ⟨(some 42), .load false 1 (.t 41), none, 4⟩,
   ⟨(some 43), .mv (.t 2), none, 0⟩,
   ⟨(some 44), .bin .add (.t 42) (.t 43), none, 28⟩,
   ⟨(some 45), .mv (.t 3), none, 0⟩,
   ⟨(some 46), .call (.f 127) [.t 40, .t 44, .t 45], none, 127⟩,
   ⟨(some 47), .faddr (.t 12) 2, none, 255⟩,
   ⟨none, .store 1 (.t 47) (.t 46), none, 511⟩] false)
 (.seq (.reg [⟨(some 48), .load true 8 (.t 10), none, 0⟩,
   ⟨(some 49), .load true 7 (.t 12), none, 0⟩,
   ⟨(some 50), .call (.f 115) [.t 48, .t 49], none, 3⟩,
   ⟨(some 8), .mv (.t 50), none, 7⟩,
   ⟨(some 9), .mv (.c (.pv (.int .i64 (0)))), none, 15⟩] false)
 (.ret))))))))⟩
def c102 : RFn := ⟨1, 6, [.tmp 2],
 .seq (.reg [⟨(some 1), .box 7 (.t 0), none, 0⟩,
   ⟨(some 2), .mv (.c (.pv (.int .i64 (0)))), none, 0⟩] false)
 (.seq (.seq (.reg [⟨(some 3), .faddr (.t 1) 0, none, 0⟩,
   ⟨(some 4), .load false 1 (.t 3), none, 1⟩,
   ⟨(some 5), .bin .eql (.t 4) (.c (.pv (.int .i64 (6)))), none, 3⟩] false)
 (.cond (.t 5)
  (.seq (.reg [⟨(some 2), .mv (.c (.pv (.int .i64 (2)))), none, 0⟩] false)
  (.ret))
  (.skip)))
 (.seq (.reg [⟨(some 2), .mv (.c (.pv (.int .i64 (3)))), none, 0⟩] false)
 (.ret)))⟩
def c103 : RFn := ⟨4, 57, [.tmp 8, .tmp 9],
 .seq (.reg [⟨(some 4), .box 67 (.t 0), none, 0⟩,
   ⟨(some 5), .box 7 (.t 1), none, 0⟩,
   ⟨(some 7), .box 7 (.t 3), none, 0⟩,
   ⟨(some 8), .mv (.c (.emp 7)), none, 0⟩,
   ⟨(some 9), .mv (.c (.pv (.int .i64 (0)))), none, 8⟩] false)
 (.seq (.seq (.reg [⟨(some 14), .faddr (.t 5) 0, none, 0⟩,
   ⟨(some 15), .load false 1 (.t 14), none, 1⟩,
   ⟨(some 16), .bin .eql (.t 15) (.c (.pv (.int .i64 (6)))), none, 3⟩] false)
 (.cond (.t 16)
  (.seq (.reg [⟨(some 18), .faddr (.t 4) 0, none, 0⟩,
    ⟨(some 19), .faddr (.t 18) 2, none, 1⟩,
    ⟨(some 20), .load false 1 (.t 19), none, 3⟩,
    ⟨(some 21), .load true 7 (.t 7), none, 0⟩,
    ⟨(some 22), .call (.f 49) [.t 20, .t 21], none, 15⟩,
    ⟨(some 17), .mv (.t 22), none, 31⟩,
    ⟨(some 23), .extract (.t 17) 0, none, 63⟩,
    ⟨(some 24), .extract (.t 17) 1, none, 63⟩,
    ⟨(some 10), .mv (.t 23), none, 127⟩,
    ⟨(some 11), .mv (.t 24), none, 511⟩] false)
  (.seq (.seq (.reg [⟨(some 25), .mv (.t 11), none, 0⟩,
    ⟨(some 26), .bin .neq (.t 25) (.c (.pv (.int .i64 (0)))), none, 1⟩] false)
  (.cond (.t 26)
   (.seq (.reg [⟨(some 27), .mv (.t 11), none, 0⟩,
     ⟨(some 8), .mv (.c (.emp 7)), none, 0⟩,
     ⟨(some 9), .mv (.t 27), none, 3⟩] false)
   (.ret))
   (.skip)))
  (.seq (.reg [⟨(some 28), .faddr (.t 4) 0, none, 0⟩,
    ⟨(some 29), .faddr (.t 28) 2, none, 1⟩,
    ⟨(some 30), .load false 1 (.t 29), none, 3⟩,
    ⟨(some 31), .load true 7 (.t 5), none, 0⟩,
    ⟨(some 32), .mv (.t 2), none, 0⟩,
    ⟨(some 33), .mv (.t 10), none, 0⟩,
    ⟨(some 34), .call (.f 100) [.t 30, .t 31, .t 32, .t 33], none, 63⟩,
    ⟨(some 35), .extract (.t 34) 0, none, 127⟩,
    ⟨(some 36), .extract (.t 34) 1, none, 127⟩,
    ⟨(some 8), .mv (.t 35), none, 511⟩,
    ⟨(some 9), .mv (.t 36), none, 1023⟩] false)
  (.ret))))
  (.skip)))
 (.seq (.reg [⟨(some 38), .faddr (.t 4) 0, none, 0⟩,
   ⟨(some 39), .faddr (.t 38) 2, none, 1⟩,
   ⟨(some 40), .load false 1 (.t 39), none, 3⟩,
   ⟨(some 41), .load true 7 (.t 7), none, 0⟩,
   ⟨(some 42), .call (.f 48) [.t 40, .t 41], none, 15⟩,
   ⟨(some 37), .mv (.t 42), none, 31⟩,
   ⟨(some 43), .extract (.t 37) 0, none, 63⟩,
   ⟨(some 44), .extract (.t 37) 1, none, 63⟩,
   ⟨(some 12), .mv (.t 43), none, 127⟩,
   ⟨(some 13), .mv (.t 44), none, 511⟩] false)
 (.seq (.seq (.reg [⟨(some 45), .mv (.t 13), none, 0⟩,
   ⟨(some 46), .bin .neq (.t 45) (.c (.pv (.int .i64 (0)))), none, 1⟩] false)
 (.cond (.t 46)
  (.seq (.reg [⟨(some 47), .mv (.t 13), none, 0⟩,
    ⟨(some 8), .mv (.c (.emp 7)), none, 0⟩,
    ⟨(some 9), .mv (.t 47), none, 3⟩] false)
  (.ret))
  (.skip)))
 (.seq (.reg [⟨(some 48), .faddr (.t 4) 0, none, 0⟩,
   ⟨(some 49), .faddr (.t 48) 2, none, 1⟩,
   ⟨(some 50), .load false 1 (.t 49), none, 3⟩,
   ⟨(some 51), .load true 7 (.t 5), none, 0⟩,
   ⟨(some 52), .mv (.t 2), none, 0⟩,
   ⟨(some 53), .mv (.t 12), none, 0⟩,
   ⟨(some 54), .call (.f 101) [.t 50, .t 51, .t 52, .t 53], none, 63⟩,
   ⟨(some 55), .extract (.t 54) 0, none, 127⟩,
   ⟨(some 56), .extract (.t 54) 1, none, 127⟩,
   ⟨(some 8), .mv (.t 55), none, 511⟩,
   ⟨(some 9), .mv (.t 56), none, 1023⟩] false)
 (.ret)))))⟩
def c104 : RFn := ⟨1, 45, [.cell 2 true 7, .tmp 3, .tmp 4, .tmp 5],
 .seq (.reg [⟨(some 1), .box 67 (.t 0), none, 0⟩,
   ⟨(some 2), .alloc [.pv (.int .i64 (0)), .pv (.bool false), .pv (.int .i64 (0)), .pv (.str []), .pv (.int .i64 (0)), .pv (.int .i64 (0)), .pv (.int .i64 (0))], none, 0⟩,
   ⟨(some 3), .mv (.c (.pv (.str []))), none, 0⟩,
   ⟨(some 4), .mv (.c (.pv (.str []))), none, 4⟩,
   ⟨(some 5), .mv (.c (.pv (.int .i64 (0)))), none, 12⟩] false)
 (.seq (.reg [⟨(some 8), .load true 67 (.t 1), none, 0⟩,
   ⟨(some 9), .bsl 1 2 [.pv (.int .i64 (0))] [(0, .c (.pv (.int .i64 (2)))), (1, .c (.pv (.int .i64 (2))))], none, 0⟩,
   ⟨(some 10), .call (.f 94) [.t 8, .t 9], none, 3⟩,
   ⟨(some 7), .mv (.t 10), none, 7⟩,
   ⟨(some 11), .extract (.t 7) 0, none, 15⟩,
   ⟨(some 12), .extract (.t 7) 1, none, 15⟩,
   ⟨(some 6), .mv (.t 11), none, 31⟩,
   ⟨(some 5), .mv (.t 12), none, 127⟩] false)
 (.seq (.seq (.reg [⟨(some 13), .mv (.t 5), none, 0⟩,
   ⟨(some 14), .bin .neq (.t 13) (.c (.pv (.int .i64 (0)))), none, 1⟩] false)
 (.cond (.t 14)
  (.seq (.reg [⟨(some 15), .load true 7 (.t 2), none, 0⟩,
    ⟨(some 16), .mv (.t 5), none, 0⟩,
    ⟨none, .store 7 (.t 2) (.t 15), none, 1⟩,
    ⟨(some 3), .mv (.c (.pv (.str []))), none, 5⟩,
    ⟨(some 4), .mv (.c (.pv (.str []))), none, 13⟩,
    ⟨(some 5), .mv (.t 16), none, 31⟩] false)
  (.ret))
  (.skip)))
 (.seq (.reg [⟨(some 18), .faddr (.t 1) 0, none, 0⟩,
   ⟨(some 19), .faddr (.t 18) 2, none, 1⟩,
   ⟨(some 20), .load false 1 (.t 19), none, 3⟩,
   ⟨(some 21), .mv (.t 6), none, 0⟩,
   ⟨(some 22), .iaddr 7 (.t 21) (.c (.pv (.int .i64 (0)))), none, 8⟩,
   ⟨(some 23), .load true 7 (.t 22), none, 24⟩,
   ⟨(some 24), .call (.f 49) [.t 20, .t 23], none, 63⟩,
   ⟨(some 17), .mv (.t 24), none, 127⟩,
   ⟨(some 25), .extract (.t 17) 0, none, 255⟩,
   ⟨(some 26), .extract (.t 17) 1, none, 255⟩,
   ⟨(some 3), .mv (.t 25), none, 511⟩,
   ⟨(some 5), .mv (.t 26), none, 2047⟩] true)
 (.seq (.seq (.reg [⟨(some 27), .mv (.t 5), none, 0⟩,
   ⟨(some 28), .bin .eql (.t 27) (.c (.pv (.int .i64 (0)))), none, 1⟩] false)
 (.cond (.t 28)
  (.reg [⟨(some 30), .faddr (.t 1) 0, none, 0⟩,
    ⟨(some 31), .faddr (.t 30) 2, none, 1⟩,
    ⟨(some 32), .load false 1 (.t 31), none, 3⟩,
    ⟨(some 33), .mv (.t 6), none, 0⟩,
    ⟨(some 34), .iaddr 7 (.t 33) (.c (.pv (.int .i64 (1)))), none, 8⟩,
    ⟨(some 35), .load true 7 (.t 34), none, 24⟩,
    ⟨(some 36), .call (.f 49) [.t 32, .t 35], none, 63⟩,
    ⟨(some 29), .mv (.t 36), none, 127⟩,
    ⟨(some 37), .extract (.t 29) 0, none, 255⟩,
    ⟨(some 38), .extract (.t 29) 1, none, 255⟩,
    ⟨(some 4), .mv (.t 37), none, 511⟩,
    ⟨(some 5), .mv (.t 38), none, 2047⟩] true)
  (.skip)))
 (.seq (.reg [⟨(some 39), .mv (.t 6), none, 0⟩,
   ⟨(some 40), .iaddr 7 (.t 39) (.c (.pv (.int .i64 (0)))), none, 1⟩,
   ⟨(some 41), .load true 7 (.t 40), none, 3⟩,
   ⟨(some 42), .mv (.t 3), none, 0⟩,
   ⟨(some 43), .mv (.t 4), none, 0⟩,
   ⟨(some 44), .mv (.t 5), none, 0⟩,
   ⟨none, .store 7 (.t 2) (.t 41), none, 7⟩,
   ⟨(some 3), .mv (.t 42), none, 79⟩,
   ⟨(some 4), .mv (.t 43), none, 223⟩,
   ⟨(some 5), .mv (.t 44), none, 511⟩] false)
 (.ret))))))⟩
def c105 : RFn := ⟨5, 82, [.cell 10 true 67, .tmp 11],
 .seq (.reg [⟨(some 5), .box 67 (.t 0), none, 0⟩,
   ⟨(some 6), .box 7 (.t 1), none, 0⟩,
   ⟨(some 10), .alloc [.emp 7, .emp 7, .emp 7, .emp 3, .pv (.int .i64 (0)), .pv (.int .i64 (0)), .pv (.int .i64 (0)), .pv (.int .i64 (0)), .pv (.int .i64 (0)), .pv (.int .i64 (0)), .pv (.int .i64 (0)), .emp 7, .pv (.int .i64 (0)), .pv (.int .i64 (0)), .pv (.int .i64 (0)), .pv (.int .i64 (0)), .pv (.int .i64 (0)), .pv (.int .i64 (0)), .pv (.int .i64 (0)), .pv (.int .i64 (0)), .pv (.int .i64 (0)), .pv (.int .i64 (0)), .pv (.int .i64 (0)), .pv (.int .i64 (0)), .pv (.int .i64 (0)), .pv (.int .i64 (0)), .pv (.int .i64 (0)), .pv (.int .i64 (0)), .pv (.int .i64 (0)), .pv (.int .i64 (0)), .pv (.int .i64 (0)), .pv (.int .i64 (0)), .pv (.bool false), .pv (.bool false), .emp 47, .pv (.int .i64 (0)), .pv (.int .i64 (0)), .pv (.int .i64 (0)), .pv (.int .i64 (0)), .pv (.int .i64 (0)), .pv (.int .i64 (0)), .pv (.int .i64 (0)), .pv (.int .i64 (0)), .emp 1, .pv (.int .i64 (0)), .pv (.int .i64 (0)), .emp 2, .pv (.int .i64 (0)), .pv (.bool false), .pv (.int .i64 (0)), .pv (.str []), .pv (.int .i64 (0)), .pv (.int .i64 (0)), .pv (.int .i64 (0)), .pv (.int .i64 (0)), .pv (.int .i64 (0)), .pv (.int .i64 (0)), .pv (.int .i64 (0)), .pv (.int .i64 (0)), .pv (.int .i64 (0)), .pv (.int .i64 (0)), .pv (.int .i64 (0)), .emp 57, .emp 47, .emp 3, .pv (.str []), .pv (.int .i64 (0))], none, 0⟩,
   ⟨(some 11), .mv (.c (.pv (.int .i64 (0)))), none, 0⟩] false)
 (.seq (.seq (.reg [⟨(some 18), .mv (.t 2), none, 0⟩,
   ⟨(some 19), .bin .lss (.t 18) (.c (.pv (.int .i64 (0)))), none, 1⟩] false)
 (.cond (.t 19)
  (.seq (.reg [⟨(some 20), .load true 67 (.t 5), none, 0⟩,
    ⟨(some 21), .faddr (.t 5) 0, none, 0⟩,
    ⟨(some 22), .faddr (.t 21) 2, none, 2⟩,
    ⟨(some 23), .load false 1 (.t 22), none, 6⟩,
    ⟨(some 24), .load true 7 (.t 6), none, 0⟩,
    ⟨(some 25), .call (.f 128) [.c (.pv (.bool false))], none, 0⟩,
    ⟨(some 26), .bsl 7 2 [.pv (.int .i64 (0)), .pv (.bool false), .pv (.int .i64 (0)), .pv (.str []), .pv (.int .i64 (0)), .pv (.int .i64 (0)), .pv (.int .i64 (0))] [(0, .t 24), (1, .t 25)], none, 48⟩,
    ⟨(some 27), .call (.f 97) [.t 20, .c (.pv (.int .i64 (2))), .t 23, .t 26], none, 127⟩,
    ⟨(some 28), .extract (.t 27) 0, none, 255⟩,
    ⟨(some 29), .extract (.t 27) 1, none, 255⟩,
    ⟨none, .store 67 (.t 10) (.t 28), none, 1023⟩,
    ⟨(some 11), .mv (.t 29), none, 2047⟩] true)
  (.ret))
  (.skip)))
 (.seq (.reg [⟨(some 31), .load true 7 (.t 6), none, 0⟩,
   ⟨(some 32), .mv (.t 2), none, 0⟩,
   ⟨(some 33), .mv (.t 3), none, 0⟩,
   ⟨(some 34), .bin .add (.t 32) (.t 33), none, 6⟩,
   ⟨(some 35), .faddr (.t 6) 6, none, 0⟩,
   ⟨(some 36), .load false 1 (.t 35), none, 16⟩,
   ⟨(some 37), .mv (.t 2), none, 0⟩,
   ⟨(some 38), .bin .sub (.t 36) (.t 37), none, 112⟩,
   ⟨(some 39), .mv (.t 3), none, 0⟩,
   ⟨(some 40), .bin .sub (.t 38) (.t 39), none, 496⟩,
   ⟨(some 41), .call (.f 99) [.t 31, .t 34, .t 40], none, 1023⟩,
   ⟨(some 30), .mv (.t 41), none, 2047⟩,
   ⟨(some 42), .extract (.t 30) 0, none, 4095⟩,
   ⟨(some 43), .extract (.t 30) 1, none, 4095⟩,
   ⟨(some 12), .alloc [.pv (.int .i64 (0)), .pv (.bool false), .pv (.int .i64 (0)), .pv (.str []), .pv (.int .i64 (0)), .pv (.int .i64 (0)), .pv (.int .i64 (0))], none, 0⟩,
   ⟨none, .store 7 (.t 12) (.t 42), none, 24575⟩,
   ⟨(some 13), .mv (.t 43), none, 65535⟩] false)
 (.seq (.reg [⟨(some 45), .load true 7 (.t 6), none, 0⟩,
   ⟨(some 46), .mv (.t 2), none, 0⟩,
   ⟨(some 47), .mv (.t 3), none, 0⟩,
   ⟨(some 48), .call (.f 99) [.t 45, .t 46, .t 47], none, 7⟩,
   ⟨(some 44), .mv (.t 48), none, 15⟩,
   ⟨(some 49), .extract (.t 44) 0, none, 31⟩,
   ⟨(some 50), .extract (.t 44) 1, none, 31⟩,
   ⟨(some 14), .alloc [.pv (.int .i64 (0)), .pv (.bool false), .pv (.int .i64 (0)), .pv (.str []), .pv (.int .i64 (0)), .pv (.int .i64 (0)), .pv (.int .i64 (0))], none, 0⟩,
   ⟨none, .store 7 (.t 14) (.t 49), none, 191⟩,
   ⟨(some 15), .mv (.t 50), none, 511⟩] false)
 (.seq (.reg [⟨(some 52), .load true 7 (.t 6), none, 0⟩,
   ⟨(some 53), .mv (.t 2), none, 0⟩,
   ⟨(some 54), .call (.f 99) [.t 52, .c (.pv (.int .i64 (0))), .t 53], none, 3⟩,
   ⟨(some 51), .mv (.t 54), none, 7⟩,
   ⟨(some 55), .extract (.t 51) 0, none, 15⟩,
   ⟨(some 56), .extract (.t 51) 1, none, 15⟩,
   ⟨(some 16), .alloc [.pv (.int .i64 (0)), .pv (.bool false), .pv (.int .i64 (0)), .pv (.str []), .pv (.int .i64 (0)), .pv (.int .i64 (0)), .pv (.int .i64 (0))], none, 0⟩,
   ⟨none, .store 7 (.t 16) (.t 55), none, 95⟩,
   ⟨(some 17), .mv (.t 56), none, 255⟩] false)
 (.seq (.seq (.reg [⟨(some 57), .mv (.t 4), none, 0⟩,
   ⟨(some 58), .not (.t 57), none, 1⟩] false)
 (.cond (.t 58)
  (.seq (.reg [⟨(some 59), .load true 67 (.t 5), none, 0⟩,
    ⟨(some 60), .faddr (.t 5) 0, none, 0⟩,
    ⟨(some 61), .faddr (.t 60) 2, none, 2⟩,
    ⟨(some 62), .load false 1 (.t 61), none, 6⟩,
    ⟨(some 63), .load true 7 (.t 12), none, 0⟩,
    ⟨(some 64), .load true 7 (.t 14), none, 0⟩,
    ⟨(some 65), .call (.f 128) [.c (.pv (.bool true))], none, 0⟩,
    ⟨(some 66), .bsl 7 3 [.pv (.int .i64 (0)), .pv (.bool false), .pv (.int .i64 (0)), .pv (.str []), .pv (.int .i64 (0)), .pv (.int .i64 (0)), .pv (.int .i64 (0))] [(0, .t 63), (1, .t 64), (2, .t 65)], none, 112⟩,
    ⟨(some 67), .call (.f 97) [.t 59, .c (.pv (.int .i64 (2))), .t 62, .t 66], none, 255⟩,
    ⟨(some 68), .extract (.t 67) 0, none, 511⟩,
    ⟨(some 69), .extract (.t 67) 1, none, 511⟩,
    ⟨none, .store 67 (.t 10) (.t 68), none, 2047⟩,
    ⟨(some 11), .mv (.t 69), none, 4095⟩] true)
  (.ret))
  (.skip)))
 (.seq (.reg [⟨(some 70), .load true 67 (.t 5), none, 0⟩,
   ⟨(some 71), .faddr (.t 5) 0, none, 0⟩,
   ⟨(some 72), .faddr (.t 71) 2, none, 2⟩,
   ⟨(some 73), .load false 1 (.t 72), none, 6⟩,
   ⟨(some 74), .load true 7 (.t 12), none, 0⟩,
   ⟨(some 75), .load true 7 (.t 14), none, 0⟩,
   ⟨(some 76), .load true 7 (.t 16), none, 0⟩,
   ⟨(some 77), .call (.f 128) [.c (.pv (.bool true))], none, 0⟩,
   ⟨(some 78), .bsl 7 4 [.pv (.int .i64 (0)), .pv (.bool false), .pv (.int .i64 (0)), .pv (.str []), .pv (.int .i64 (0)), .pv (.int .i64 (0)), .pv (.int .i64 (0))] [(0, .t 74), (1, .t 75), (2, .t 76), (3, .t 77)], none, 240⟩,
   ⟨(some 79), .call (.f 97) [.t 70, .c (.pv (.int .i64 (2))), .t 73, .t 78], none, 511⟩,
   ⟨(some 80), .extract (.t 79) 0, none, 1023⟩,
   ⟨(some 81), .extract (.t 79) 1, none, 1023⟩,
   ⟨none, .store 67 (.t 10) (.t 80), none, 4095⟩,
   ⟨(some 11), .mv (.t 81), none, 8191⟩] true)
 (.ret)))))))⟩
def c106 : RFn := ⟨2, 8, [.tmp 4],
 .seq (.reg [⟨(some 4), .mv (.c (.pv (.int .i64 (0)))), none, 0⟩] false)
 (.seq (.reg [⟨(some 5), .mv (.t 0), none, 0⟩,
   ⟨(some 6), .mv (.t 1), none, 0⟩,
   ⟨(some 7), .call (.f 129) [.t 5, .t 6], none, 3⟩,
   ⟨(some 4), .mv (.t 7), none, 7⟩] false)
 (.ret))⟩
def c107 : RFn := ⟨2, 8, [.tmp 4],
 .seq (.reg [⟨(some 4), .mv (.c (.pv (.bool false))), none, 0⟩] false)
 (.seq (.reg [⟨(some 5), .mv (.t 0), none, 0⟩,
   ⟨(some 6), .mv (.t 1), none, 0⟩,
   ⟨(some 7), .call (.f 130) [.t 5, .t 6], none, 3⟩,
   ⟨(some 4), .mv (.t 7), none, 7⟩] false)
 (.ret))⟩
def c108 : RFn := ⟨1, 18, [.tmp 2],
 .seq (.reg [⟨(some 2), .mv (.c (.pv (.int .i64 (0)))), none, 0⟩] false)
 (.seq (.reg [⟨(some 3), .mv (.c (.pv (.int .i64 (0)))), none, 0⟩] false)
 (.seq (.seq (.reg [⟨(some 6), .mv (.t 0), none, 0⟩,
   ⟨(some 7), .slen (.t 6), none, 1⟩,
   ⟨(some 8), .mv (.c (.pv (.int .i64 (0)))), none, 0⟩] false)
 (.block 0
  (.loop [3, 6, 7, 8]
   (.seq (.reg [⟨(some 9), .bin .lss (.t 8) (.t 7), none, 0⟩] false)
   (.seq (.cond (.t 9)
    (.skip)
    (.exit 0))
   (.seq (.block 1
    (.seq (.reg [⟨(some 10), .iaddr 7 (.t 6) (.t 8), none, 0⟩,
      ⟨(some 11), .load true 7 (.t 10), none, 1⟩,
      ⟨(some 5), .alloc [.pv (.int .i64 (0)), .pv (.str []), .emp 7, .emp 7, .emp 7, .pv (.int .i64 (0)), .pv (.int .i64 (0))], none, 0⟩,
      ⟨none, .store 7 (.t 5) (.t 11), none, 7⟩] false)
    (.reg [⟨(some 12), .mv (.t 3), none, 0⟩,
      ⟨(some 13), .load true 7 (.t 5), none, 0⟩,
      ⟨(some 14), .call (.f 109) [.t 13], none, 2⟩,
      ⟨(some 15), .bin .add (.t 12) (.t 14), none, 7⟩,
      ⟨(some 3), .mv (.t 15), none, 15⟩] false)))
   (.reg [⟨(some 16), .bin .add (.t 8) (.c (.pv (.int .i64 (1)))), none, 0⟩,
     ⟨(some 8), .mv (.t 16), none, 1⟩] false)))))))
 (.seq (.reg [⟨(some 17), .mv (.t 3), none, 0⟩,
   ⟨(some 2), .mv (.t 17), none, 1⟩] false)
 (.ret))))⟩
def c109 : RFn := ⟨1, 20, [.tmp 2],
 .seq (.reg [⟨(some 1), .box 7 (.t 0), none, 0⟩,
   ⟨(some 2), .mv (.c (.pv (.int .i64 (0)))), none, 0⟩] false)
 (.seq (.seq (.reg [⟨(some 3), .faddr (.t 1) 0, none, 0⟩,
   ⟨(some 4), .load false 1 (.t 3), none, 1⟩,
   ⟨(some 5), .bin .eql (.t 4) (.c (.pv (.int .i64 (3)))), none, 3⟩] false)
 (.cond (.t 5)
  (.seq (.reg [⟨(some 6), .faddr (.t 1) 5, none, 0⟩,
    ⟨(some 7), .load false 1 (.t 6), none, 1⟩,
    ⟨(some 8), .mm false [.t 7, .c (.pv (.int .i64 (200)))], none, 3⟩,
    ⟨(some 9), .mm true [.c (.pv (.int .i64 (0))), .t 8], none, 7⟩,
    ⟨(some 10), .bin .mul (.c (.pv (.int .i64 (2)))) (.t 9), none, 15⟩,
    ⟨(some 11), .bin .add (.c (.pv (.int .i64 (1)))) (.t 10), none, 31⟩,
    ⟨(some 2), .mv (.t 11), none, 63⟩] false)
  (.ret))
  (.skip)))
 (.seq (.reg [⟨(some 12), .faddr (.t 1) 1, none, 0⟩,
   ⟨(some 13), .load false 1 (.t 12), none, 1⟩,
   ⟨(some 14), .strlen (.t 13), none, 3⟩,
   ⟨(some 15), .bin .add (.c (.pv (.int .i64 (1)))) (.t 14), none, 7⟩,
   ⟨(some 16), .faddr (.t 1) 2, none, 0⟩,
   ⟨(some 17), .load false 1 (.t 16), none, 16⟩,
   ⟨(some 18), .slen (.t 17), none, 48⟩,
   ⟨(some 19), .bin .add (.t 15) (.t 18), none, 127⟩,
   ⟨(some 2), .mv (.t 19), none, 255⟩] false)
 (.ret)))⟩
def c110 : RFn := ⟨2, 30, [.cell 4 true 67, .tmp 5],
 .seq (.reg [⟨(some 2), .box 67 (.t 0), none, 0⟩,
   ⟨(some 4), .alloc [.emp 7, .emp 7, .emp 7, .emp 3, .pv (.int .i64 (0)), .pv (.int .i64 (0)), .pv (.int .i64 (0)), .pv (.int .i64 (0)), .pv (.int .i64 (0)), .pv (.int .i64 (0)), .pv (.int .i64 (0)), .emp 7, .pv (.int .i64 (0)), .pv (.int .i64 (0)), .pv (.int .i64 (0)), .pv (.int .i64 (0)), .pv (.int .i64 (0)), .pv (.int .i64 (0)), .pv (.int .i64 (0)), .pv (.int .i64 (0)), .pv (.int .i64 (0)), .pv (.int .i64 (0)), .pv (.int .i64 (0)), .pv (.int .i64 (0)), .pv (.int .i64 (0)), .pv (.int .i64 (0)), .pv (.int .i64 (0)), .pv (.int .i64 (0)), .pv (.int .i64 (0)), .pv (.int .i64 (0)), .pv (.int .i64 (0)), .pv (.int .i64 (0)), .pv (.bool false), .pv (.bool false), .emp 47, .pv (.int .i64 (0)), .pv (.int .i64 (0)), .pv (.int .i64 (0)), .pv (.int .i64 (0)), .pv (.int .i64 (0)), .pv (.int .i64 (0)), .pv (.int .i64 (0)), .pv (.int .i64 (0)), .emp 1, .pv (.int .i64 (0)), .pv (.int .i64 (0)), .emp 2, .pv (.int .i64 (0)), .pv (.bool false), .pv (.int .i64 (0)), .pv (.str []), .pv (.int .i64 (0)), .pv (.int .i64 (0)), .pv (.int .i64 (0)), .pv (.int .i64 (0)), .pv (.int .i64 (0)), .pv (.int .i64 (0)), .pv (.int .i64 (0)), .pv (.int .i64 (0)), .pv (.int .i64 (0)), .pv (.int .i64 (0)), .pv (.int .i64 (0)), .emp 57, .emp 47, .emp 3, .pv (.str []), .pv (.int .i64 (0))], none, 0⟩,
   ⟨(some 5), .mv (.c (.pv (.int .i64 (0)))), none, 0⟩] false)
 (.seq (.seq (.reg [⟨(some 6), .mv (.t 1), none, 0⟩,
   ⟨(some 7), .bin .lss (.t 6) (.c (.pv (.int .i64 (0)))), none, 1⟩] false)
 (.cond (.t 7)
  (.seq (.reg [⟨(some 8), .load true 67 (.t 2), none, 0⟩,
    ⟨none, .store 67 (.t 4) (.t 8), none, 1⟩,
    ⟨(some 5), .mv (.c (.pv (.int .i64 (2)))), none, 3⟩] false)
  (.ret))
  (.skip)))
 (.seq (.seq (.reg [⟨(some 9), .mv (.t 1), none, 0⟩,
   ⟨(some 10), .faddr (.t 2) 0, none, 0⟩,
   ⟨(some 11), .load false 1 (.t 10), none, 2⟩,
   ⟨(some 12), .slen (.t 11), none, 6⟩,
   ⟨(some 13), .bin .gtr (.t 9) (.t 12), none, 15⟩] false)
 (.cond (.t 13)
  (.seq (.reg [⟨(some 14), .load true 67 (.t 2), none, 0⟩,
    ⟨none, .store 67 (.t 4) (.t 14), none, 1⟩,
    ⟨(some 5), .mv (.c (.pv (.int .i64 (20)))), none, 3⟩] false)
  (.ret))
  (.skip)))
 (.seq (.reg [⟨(some 15), .faddr (.t 2) 0, none, 0⟩,
   ⟨(some 16), .load false 1 (.t 15), none, 1⟩,
   ⟨(some 17), .faddr (.t 2) 0, none, 0⟩,
   ⟨(some 18), .load false 1 (.t 17), none, 4⟩,
   ⟨(some 19), .slen (.t 18), none, 12⟩,
   ⟨(some 20), .mv (.t 1), none, 0⟩,
   ⟨(some 21), .bin .sub (.t 19) (.t 20), none, 60⟩,
   ⟨(some 22), .faddr (.t 2) 0, none, 0⟩,
   ⟨(some 23), .load false 1 (.t 22), none, 128⟩,
   ⟨(some 24), .slen (.t 23), none, 384⟩,
   ⟨(some 25), .mv (.t 1), none, 0⟩,
   ⟨(some 26), .bin .sub (.t 24) (.t 25), none, 1920⟩,
   ⟨(some 27), .slice 7 (.t 16) none (some (.t 21)) (some (.t 26)), none, 4095⟩,
   ⟨(some 28), .faddr (.t 2) 0, none, 8191⟩,
   ⟨none, .store 1 (.t 28) (.t 27), none, 16383⟩] false)
 (.seq (.reg [⟨(some 29), .load true 67 (.t 2), none, 0⟩,
   ⟨none, .store 67 (.t 4) (.t 29), none, 1⟩,
   ⟨(some 5), .mv (.c (.pv (.int .i64 (0)))), none, 3⟩] false)
 (.ret)))))⟩
def c115 : RFn := ⟨2, 23, [.tmp 4],
 .seq (.reg [⟨(some 2), .box 8 (.t 0), none, 0⟩,
   ⟨(some 3), .box 7 (.t 1), none, 0⟩,
   ⟨(some 4), .mv (.c (.emp 7)), none, 0⟩] false)
 (.seq (.reg [⟨(some 6), .faddr (.t 2) 0, none, 0⟩,
   ⟨(some 7), .faddr (.t 6) 0, none, 1⟩,
   ⟨(some 8), .load false 1 (.t 7), none, 3⟩,
   ⟨(some 9), .slen (.t 8), none, 7⟩,
   ⟨(some 10), .mksl 7 112 [.int .i64 (0), .str [], .sl 7 [], .sl 7 [], .sl 7 [], .int .i64 (0), .int .i64 (0)] (.t 9), none, 15⟩,
   ⟨(some 5), .mv (.t 10), none, 31⟩] false)
 (.seq (.reg [⟨(some 11), .mv (.t 5), none, 0⟩,
   ⟨(some 12), .faddr (.t 2) 0, none, 0⟩,
   ⟨(some 13), .faddr (.t 12) 0, none, 2⟩,
   ⟨(some 14), .load false 1 (.t 13), none, 6⟩,
   ⟨(some 15), .copy 7 (.t 11) (.t 14), none, 15⟩] false)
 (.seq (.reg [⟨(some 16), .mv (.t 5), none, 0⟩,
   ⟨(some 17), .faddr (.t 2) 1, none, 0⟩,
   ⟨(some 18), .faddr (.t 17) 4, none, 2⟩,
   ⟨(some 19), .load false 1 (.t 18), none, 6⟩,
   ⟨(some 20), .load true 7 (.t 3), none, 0⟩,
   ⟨(some 21), .iaddr 7 (.t 16) (.t 19), none, 31⟩,
   ⟨none, .store 7 (.t 21) (.t 20), none, 63⟩] false)
 (.seq (.reg [⟨(some 22), .mv (.t 5), none, 0⟩,
   ⟨(some 4), .mv (.t 22), none, 1⟩] false)
 (.ret)))))⟩
def c116 : RFn := ⟨1, 30, [.tmp 2],
 .seq (.reg [⟨(some 1), .box 7 (.t 0), none, 0⟩,
   ⟨(some 2), .mv (.c (.pv (.int .i64 (0)))), none, 0⟩] false)
 (.scope
  (.seq (.seq (.reg [⟨(some 7), .faddr (.t 1) 0, none, 0⟩,
    ⟨(some 8), .load false 1 (.t 7), none, 1⟩,
    ⟨(some 9), .bin .lss (.t 8) (.c (.pv (.int .i64 (0)))), none, 3⟩,
    ⟨(some 10), .mv (.t 9), none, 7⟩,
    ⟨(some 11), .faddr (.t 1) 0, (some (10, false)), 15⟩,
    ⟨(some 12), .load false 1 (.t 11), (some (10, false)), 31⟩,
    ⟨(some 13), .bin .geq (.t 12) (.c (.pv (.int .i64 (13)))), (some (10, false)), 63⟩,
    ⟨(some 14), .pick (.t 10) (.c (.pv (.bool true))) (.t 13), none, 127⟩] false)
  (.cond (.t 14)
   (.seq (.reg [⟨(some 2), .mv (.c (.pv (.int .i64 (200)))), none, 0⟩] false)
   (.ret))
   (.skip)))
  (.seq (.reg [⟨(some 15), .call (.f 131) [], none, 0⟩,
    ⟨(some 16), .faddr (.t 1) 0, none, 0⟩,
    ⟨(some 17), .load false 1 (.t 16), none, 2⟩,
    ⟨(some 18), .index true 13 6 (.t 15) (.t 17), none, 7⟩,
    ⟨(some 3), .alloc [.pv (.str []), .pv (.int .i64 (0)), .pv (.int .i64 (0)), .pv (.int .i64 (0)), .pv (.int .i64 (0)), .pv (.int .i64 (0))], none, 0⟩,
    ⟨none, .store 6 (.t 3) (.t 18), none, 31⟩] true)
  (.seq (.reg [⟨(some 4), .mv (.c (.pv (.int .i64 (0)))), none, 0⟩] false)
  (.seq (.skip)
  (.seq (.seq (.reg [⟨(some 19), .build [.pv .nilFunc, .pv .nilFunc, .pv .nilFunc] [(0, 1, .f 132), (1, 1, .f 133), (2, 1, .f 134)], none, 0⟩,
    ⟨(some 20), .mv (.c (.pv (.int .i64 (0)))), none, 0⟩] false)
  (.block 0
   (.loop [1, 3, 4, 19, 20]
    (.seq (.reg [⟨(some 21), .bin .lss (.t 20) (.c (.pv (.int .i64 (3)))), none, 0⟩] false)
    (.seq (.cond (.t 21)
     (.skip)
     (.exit 0))
    (.seq (.block 1
     (.seq (.reg [⟨(some 22), .index false 3 1 (.t 19) (.t 20), none, 0⟩,
       ⟨(some 6), .mv (.t 22), none, 1⟩] false)
     (.seq (.reg [⟨(some 23), .mv (.t 6), none, 0⟩,
       ⟨(some 24), .load true 6 (.t 3), none, 0⟩,
       ⟨(some 25), .load true 7 (.t 1), none, 0⟩,
       ⟨(some 26), .call (.t 23) [.t 24, .t 25], none, 7⟩,
       ⟨(some 27), .not (.t 26), none, 15⟩] false)
     (.cond (.t 27)
      (.seq (.reg [⟨(some 4), .mv (.c (.pv (.int .i64 (200)))), none, 0⟩] false)
      (.exit 0))
      (.skip)))))
    (.reg [⟨(some 28), .bin .add (.t 20) (.c (.pv (.int .i64 (1)))), none, 0⟩,
      ⟨(some 20), .mv (.t 28), none, 1⟩] false)))))))
  (.seq (.reg [⟨(some 29), .mv (.t 4), none, 0⟩,
    ⟨(some 2), .mv (.t 29), none, 1⟩] false)
  (.ret))))))))⟩
def c117 : RFn := ⟨1, 6, [.tmp 2],
 .seq (.reg [⟨(some 2), .mv (.c (.pv (.int .i64 (0)))), none, 0⟩] false)
 (.seq (.reg [⟨(some 3), .build [.pv (.int .i64 (0)), .pv (.int .i64 (0)), .pv (.int .i64 (0)), .pv (.int .i64 (0)), .pv (.int .i64 (0)), .pv (.int .i64 (0)), .pv (.int .i64 (0)), .pv (.int .i64 (0)), .pv (.int .i64 (0)), .pv (.int .i64 (0)), .pv (.int .i64 (0)), .pv (.int .i64 (0)), .pv (.int .i64 (0)), .pv (.int .i64 (0))] [(6, 1, .c (.pv (.int .i64 (1)))), (7, 1, .c (.pv (.int .i64 (2)))), (8, 1, .c (.pv (.int .i64 (2)))), (9, 1, .c (.pv (.int .i64 (3)))), (11, 1, .c (.pv (.int .i64 (4)))), (13, 1, .c (.pv (.int .i64 (0))))], none, 0⟩,
   ⟨(some 4), .mv (.t 0), none, 0⟩,
   ⟨(some 5), .index false 14 1 (.t 3) (.t 4), none, 3⟩,
   ⟨(some 2), .mv (.t 5), none, 7⟩] false)
 (.ret))⟩
def c118 : RFn := ⟨1, 12, [.tmp 2],
 .seq (.reg [⟨(some 1), .box 7 (.t 0), none, 0⟩,
   ⟨(some 2), .mv (.c (.pv (.int .i64 (0)))), none, 0⟩] false)
 (.seq (.seq (.reg [⟨(some 3), .faddr (.t 1) 0, none, 0⟩,
   ⟨(some 4), .load false 1 (.t 3), none, 1⟩,
   ⟨(some 5), .bin .eql (.t 4) (.c (.pv (.int .i64 (1)))), none, 3⟩] false)
 (.cond (.t 5)
  (.seq (.reg [⟨(some 6), .faddr (.t 1) 1, none, 0⟩,
    ⟨(some 7), .load false 1 (.t 6), none, 1⟩,
    ⟨(some 8), .strlen (.t 7), none, 3⟩,
    ⟨(some 2), .mv (.t 8), none, 7⟩] false)
  (.ret))
  (.skip)))
 (.seq (.reg [⟨(some 9), .faddr (.t 1) 2, none, 0⟩,
   ⟨(some 10), .load false 1 (.t 9), none, 1⟩,
   ⟨(some 11), .slen (.t 10), none, 3⟩,
   ⟨(some 2), .mv (.t 11), none, 7⟩] false)
 (.ret)))⟩
def c123 : RFn := ⟨2, 9, [.tmp 4],
 .seq (.reg [⟨(some 4), .mv (.c (.pv (.bool false))), none, 0⟩] false)
 (.seq (.reg [⟨(some 5), .mv (.t 0), none, 0⟩,
   ⟨(some 6), .mv (.t 1), none, 0⟩,
   ⟨(some 7), .call (.f 138) [.t 5, .t 6], none, 3⟩,
   ⟨(some 8), .bin .geq (.t 7) (.c (.pv (.int .i64 (0)))), none, 7⟩,
   ⟨(some 4), .mv (.t 8), none, 15⟩] false)
 (.ret))⟩
def c124 : RFn := ⟨2, 43, [.tmp 4],
 .seq (.reg [⟨(some 3), .box 7 (.t 1), none, 0⟩,
   ⟨(some 4), .mv (.c (.pv (.bool false))), none, 0⟩] false)
 (.seq (.seq (.reg [⟨(some 5), .mv (.t 0), none, 0⟩] false)
 (.block 0
  (.seq (.reg [⟨(some 7), .bin .eql (.t 5) (.c (.pv (.int .i64 (1)))), none, 0⟩,
    ⟨(some 6), .mv (.t 7), none, 1⟩] false)
  (.cond (.t 6)
   (.seq (.reg [⟨(some 8), .faddr (.t 3) 0, none, 0⟩,
     ⟨(some 9), .load false 1 (.t 8), none, 1⟩,
     ⟨(some 10), .bin .eql (.t 9) (.c (.pv (.int .i64 (3)))), none, 3⟩,
     ⟨(some 4), .mv (.t 10), none, 7⟩] false)
   (.ret))
   (.seq (.reg [⟨(some 12), .bin .eql (.t 5) (.c (.pv (.int .i64 (2)))), none, 0⟩,
     ⟨(some 11), .mv (.t 12), none, 1⟩] false)
   (.cond (.t 11)
    (.seq (.reg [⟨(some 13), .faddr (.t 3) 0, none, 0⟩,
      ⟨(some 14), .load false 1 (.t 13), none, 1⟩,
      ⟨(some 15), .bin .eql (.t 14) (.c (.pv (.int .i64 (6)))), none, 3⟩,
      ⟨(some 4), .mv (.t 15), none, 7⟩] false)
    (.ret))
    (.seq (.reg [⟨(some 17), .bin .eql (.t 5) (.c (.pv (.int .i64 (3)))), none, 0⟩,
      ⟨(some 16), .mv (.t 17), none, 1⟩] false)
    (.cond (.t 16)
     (.seq (.reg [⟨(some 18), .load true 7 (.t 3), none, 0⟩,
       ⟨(some 19), .call (.f 139) [.t 18], none, 1⟩,
       ⟨(some 4), .mv (.t 19), none, 3⟩] false)
     (.ret))
     (.seq (.reg [⟨(some 21), .bin .eql (.t 5) (.c (.pv (.int .i64 (4)))), none, 0⟩,
       ⟨(some 20), .mv (.t 21), none, 1⟩] false)
     (.cond (.t 20)
      (.seq (.reg [⟨(some 22), .load true 7 (.t 3), none, 0⟩,
        ⟨(some 23), .call (.f 139) [.t 22], none, 1⟩,
        ⟨(some 24), .mv (.t 23), none, 3⟩,
        ⟨(some 25), .faddr (.t 3) 0, (some (24, false)), 7⟩,
        ⟨(some 26), .load false 1 (.t 25), (some (24, false)), 15⟩,
        ⟨(some 27), .bin .eql (.t 26) (.c (.pv (.int .i64 (6)))), (some (24, false)), 31⟩,
        ⟨(some 28), .pick (.t 24) (.c (.pv (.bool true))) (.t 27), none, 63⟩,
        ⟨(some 4), .mv (.t 28), none, 127⟩] false)
      (.ret))
      (.seq (.reg [⟨(some 30), .bin .eql (.t 5) (.c (.pv (.int .i64 (5)))), none, 0⟩,
        ⟨(some 29), .mv (.t 30), none, 1⟩] false)
      (.cond (.t 29)
       (.seq (.reg [⟨(some 31), .load true 7 (.t 3), none, 0⟩,
         ⟨(some 32), .call (.f 139) [.t 31], none, 1⟩,
         ⟨(some 33), .mv (.t 32), none, 3⟩,
         ⟨(some 34), .faddr (.t 3) 0, (some (33, false)), 7⟩,
         ⟨(some 35), .load false 1 (.t 34), (some (33, false)), 15⟩,
         ⟨(some 36), .bin .eql (.t 35) (.c (.pv (.int .i64 (6)))), (some (33, false)), 31⟩,
         ⟨(some 37), .pick (.t 33) (.c (.pv (.bool true))) (.t 36), none, 63⟩,
         ⟨(some 38), .mv (.t 37), none, 127⟩,
         ⟨(some 39), .faddr (.t 3) 0, (some (38, false)), 255⟩,
         ⟨(some 40), .load false 1 (.t 39), (some (38, false)), 511⟩,
         ⟨(some 41), .bin .eql (.t 40) (.c (.pv (.int .i64 (5)))), (some (38, false)), 1023⟩,
         ⟨(some 42), .pick (.t 38) (.c (.pv (.bool true))) (.t 41), none, 2047⟩,
         ⟨(some 4), .mv (.t 42), none, 4095⟩] false)
       (.ret))
       (.skip)))))))))))))
 (.seq (.reg [⟨(some 4), .mv (.c (.pv (.bool true))), none, 0⟩] false)
 (.ret)))⟩
def c125 : RFn := ⟨3, 25, [.tmp 6],
 .seq (.reg [⟨(some 3), .box 8 (.t 0), none, 0⟩,
   ⟨(some 6), .mv (.c (.pv (.int .i64 (0)))), none, 0⟩] false)
 (.seq (.seq (.reg [⟨(some 7), .mv (.t 1), none, 0⟩,
   ⟨(some 8), .bin .lss (.t 7) (.c (.pv (.int .i64 (0)))), none, 1⟩,
   ⟨(some 9), .mv (.t 8), none, 3⟩,
   ⟨(some 10), .mv (.t 1), (some (9, false)), 7⟩,
   ⟨(some 11), .faddr (.t 3) 1, (some (9, false)), 7⟩,
   ⟨(some 12), .faddr (.t 11) 6, (some (9, false)), 23⟩,
   ⟨(some 13), .load false 1 (.t 12), (some (9, false)), 55⟩,
   ⟨(some 14), .bin .gtr (.t 10) (.t 13), (some (9, false)), 127⟩,
   ⟨(some 15), .pick (.t 9) (.c (.pv (.bool true))) (.t 14), none, 255⟩,
   ⟨(some 16), .mv (.t 15), none, 511⟩,
   ⟨(some 17), .mv (.t 2), (some (16, false)), 1023⟩,
   ⟨(some 18), .faddr (.t 3) 1, (some (16, false)), 1023⟩,
   ⟨(some 19), .faddr (.t 18) 6, (some (16, false)), 3071⟩,
   ⟨(some 20), .load false 1 (.t 19), (some (16, false)), 7167⟩,
   ⟨(some 21), .mv (.t 1), (some (16, false)), 1023⟩,
   ⟨(some 22), .bin .sub (.t 20) (.t 21), (some (16, false)), 31743⟩,
   ⟨(some 23), .bin .gtr (.t 17) (.t 22), (some (16, false)), 65535⟩,
   ⟨(some 24), .pick (.t 16) (.c (.pv (.bool true))) (.t 23), none, 131071⟩] false)
 (.cond (.t 24)
  (.seq (.reg [⟨(some 6), .mv (.c (.pv (.int .i64 (23)))), none, 0⟩] false)
  (.ret))
  (.skip)))
 (.seq (.reg [⟨(some 6), .mv (.c (.pv (.int .i64 (0)))), none, 0⟩] false)
 (.ret)))⟩
def c126 : RFn := ⟨3, 20, [.tmp 6],
 .seq (.reg [⟨(some 6), .mv (.c (.emp 1)), none, 0⟩] false)
 (.seq (.reg [⟨(some 8), .mv (.t 0), none, 0⟩,
   ⟨(some 9), .slen (.t 8), none, 1⟩,
   ⟨(some 10), .mksl 1 1 [.int .u8 (0)] (.t 9), none, 3⟩,
   ⟨(some 7), .mv (.t 10), none, 7⟩] false)
 (.seq (.reg [⟨(some 11), .mv (.t 7), none, 0⟩,
   ⟨(some 12), .mv (.t 0), none, 0⟩,
   ⟨(some 13), .copy 1 (.t 11) (.t 12), none, 3⟩] false)
 (.seq (.reg [⟨(some 14), .mv (.t 7), none, 0⟩,
   ⟨(some 15), .mv (.t 1), none, 0⟩,
   ⟨(some 16), .slice 1 (.t 14) (some (.t 15)) none none, none, 3⟩,
   ⟨(some 17), .mv (.t 2), none, 0⟩,
   ⟨(some 18), .copy 1 (.t 16) (.t 17), none, 15⟩] false)
 (.seq (.reg [⟨(some 19), .mv (.t 7), none, 0⟩,
   ⟨(some 6), .mv (.t 19), none, 1⟩] false)
 (.ret)))))⟩
def c127 : RFn := ⟨3, 20, [.tmp 6],
 .seq (.reg [⟨(some 6), .mv (.c (.emp 7)), none, 0⟩] false)
 (.seq (.reg [⟨(some 8), .mv (.t 0), none, 0⟩,
   ⟨(some 9), .slen (.t 8), none, 1⟩,
   ⟨(some 10), .mksl 7 64 [.int .i64 (0), .bool false, .int .i64 (0), .str [], .int .i64 (0), .int .i64 (0), .int .i64 (0)] (.t 9), none, 3⟩,
   ⟨(some 7), .mv (.t 10), none, 7⟩] false)
 (.seq (.reg [⟨(some 11), .mv (.t 7), none, 0⟩,
   ⟨(some 12), .mv (.t 0), none, 0⟩,
   ⟨(some 13), .copy 7 (.t 11) (.t 12), none, 3⟩] false)
 (.seq (.reg [⟨(some 14), .mv (.t 7), none, 0⟩,
   ⟨(some 15), .mv (.t 1), none, 0⟩,
   ⟨(some 16), .slice 7 (.t 14) (some (.t 15)) none none, none, 3⟩,
   ⟨(some 17), .mv (.t 2), none, 0⟩,
   ⟨(some 18), .copy 7 (.t 16) (.t 17), none, 15⟩] false)
 (.seq (.reg [⟨(some 19), .mv (.t 7), none, 0⟩,
   ⟨(some 6), .mv (.t 19), none, 1⟩] false)
 (.ret)))))⟩
def c128 : RFn := ⟨1, 8, [.cell 2 true 7],
 .seq (.reg [⟨(some 2), .alloc [.pv (.int .i64 (0)), .pv (.bool false), .pv (.int .i64 (0)), .pv (.str []), .pv (.int .i64 (0)), .pv (.int .i64 (0)), .pv (.int .i64 (0))], none, 0⟩] false)
 (.seq (.reg [⟨(some 4), .build [.pv (.int .i64 (0)), .pv (.bool false), .pv (.int .i64 (0)), .pv (.str []), .pv (.int .i64 (0)), .pv (.int .i64 (0)), .pv (.int .i64 (0))] [(0, 1, .c (.pv (.int .i64 (2))))], none, 0⟩,
   ⟨(some 3), .alloc [.pv (.int .i64 (0)), .pv (.bool false), .pv (.int .i64 (0)), .pv (.str []), .pv (.int .i64 (0)), .pv (.int .i64 (0)), .pv (.int .i64 (0))], none, 0⟩,
   ⟨none, .store 7 (.t 3) (.t 4), none, 3⟩] false)
 (.seq (.seq (.reg [⟨(some 5), .mv (.t 0), none, 0⟩] false)
 (.cond (.t 5)
  (.reg [⟨(some 6), .faddr (.t 3) 2, none, 0⟩,
    ⟨none, .store 1 (.t 6) (.c (.pv (.int .i64 (1)))), none, 1⟩] false)
  (.skip)))
 (.seq (.reg [⟨(some 7), .load true 7 (.t 3), none, 0⟩,
   ⟨none, .store 7 (.t 2) (.t 7), none, 1⟩] false)
 (.ret))))⟩
def c129 : RFn := ⟨2, 143, [.tmp 4],
 .seq (.reg [⟨(some 4), .mv (.c (.pv (.int .i64 (0)))), none, 0⟩] false)
 (.seq (.reg [⟨(some 14), .mv (.t 1), none, 0⟩,
   ⟨(some 15), .strlen (.t 14), none, 1⟩,
   ⟨(some 5), .mv (.t 15), none, 3⟩] false)
 (.seq (.block 0
  (.seq (.reg [⟨(some 17), .mv (.t 5), none, 0⟩,
    ⟨(some 18), .bin .eql (.t 17) (.c (.pv (.int .i64 (0)))), none, 1⟩,
    ⟨(some 19), .mv (.t 18), none, 3⟩,
    ⟨(some 20), .mv (.t 1), (some (19, false)), 7⟩,
    ⟨(some 21), .mv (.t 0), (some (19, false)), 7⟩,
    ⟨(some 22), .bin .eql (.t 20) (.t 21), (some (19, false)), 31⟩,
    ⟨(some 23), .pick (.t 19) (.c (.pv (.bool true))) (.t 22), none, 63⟩,
    ⟨(some 16), .mv (.t 23), none, 127⟩] false)
  (.cond (.t 16)
   (.seq (.reg [⟨(some 4), .mv (.c (.pv (.int .i64 (0)))), none, 0⟩] false)
   (.ret))
   (.seq (.reg [⟨(some 25), .mv (.t 5), none, 0⟩,
     ⟨(some 26), .bin .eql (.t 25) (.c (.pv (.int .i64 (1)))), none, 1⟩,
     ⟨(some 24), .mv (.t 26), none, 3⟩] false)
   (.cond (.t 24)
    (.seq (.reg [⟨(some 27), .mv (.t 0), none, 0⟩,
      ⟨(some 28), .mv (.t 1), none, 0⟩,
      ⟨(some 29), .sindex (.t 28) (.c (.pv (.int .i64 (0)))), none, 2⟩,
      ⟨(some 30), .call (.f 140) [.t 27, .t 29], none, 7⟩,
      ⟨(some 4), .mv (.t 30), none, 15⟩] false)
    (.ret))
    (.seq (.reg [⟨(some 32), .mv (.t 5), none, 0⟩,
      ⟨(some 33), .mv (.t 0), none, 0⟩,
      ⟨(some 34), .strlen (.t 33), none, 2⟩,
      ⟨(some 35), .bin .geq (.t 32) (.t 34), none, 7⟩,
      ⟨(some 31), .mv (.t 35), none, 15⟩] false)
    (.cond (.t 31)
     (.seq (.reg [⟨(some 4), .mv (.c (.pv (.int .i64 (-1)))), none, 0⟩] false)
     (.ret))
     (.seq (.reg [⟨(some 37), .mv (.t 5), none, 0⟩,
       ⟨(some 38), .load false 1 (.g 0), none, 0⟩,
       ⟨(some 39), .bin .leq (.t 37) (.t 38), none, 3⟩,
       ⟨(some 40), .mv (.t 39), none, 7⟩,
       ⟨(some 41), .mv (.t 0), (some (40, true)), 15⟩,
       ⟨(some 42), .strlen (.t 41), (some (40, true)), 31⟩,
       ⟨(some 43), .bin .leq (.t 42) (.c (.pv (.int .i64 (64)))), (some (40, true)), 63⟩,
       ⟨(some 44), .pick (.t 40) (.t 43) (.c (.pv (.bool false))), none, 127⟩,
       ⟨(some 36), .mv (.t 44), none, 255⟩] false)
     (.cond (.t 36)
      (.seq (.reg [⟨(some 45), .mv (.t 0), none, 0⟩,
        ⟨(some 46), .mv (.t 1), none, 0⟩,
        ⟨(some 47), .call (.f 141) [.t 45, .t 46], none, 3⟩,
        ⟨(some 4), .mv (.t 47), none, 7⟩] false)
      (.ret))
      (.skip))))))))))
 (.seq (.reg [⟨(some 48), .mv (.t 1), none, 0⟩,
   ⟨(some 49), .sindex (.t 48) (.c (.pv (.int .i64 (0)))), none, 1⟩,
   ⟨(some 6), .mv (.t 49), none, 3⟩] false)
 (.seq (.reg [⟨(some 50), .mv (.t 1), none, 0⟩,
   ⟨(some 51), .sindex (.t 50) (.c (.pv (.int .i64 (1)))), none, 1⟩,
   ⟨(some 7), .mv (.t 51), none, 3⟩] false)
 (.seq (.reg [⟨(some 8), .mv (.c (.pv (.int .i64 (0)))), none, 0⟩] false)
 (.seq (.reg [⟨(some 52), .mv (.t 0), none, 0⟩,
   ⟨(some 53), .strlen (.t 52), none, 1⟩,
   ⟨(some 54), .mv (.t 5), none, 0⟩,
   ⟨(some 55), .bin .sub (.t 53) (.t 54), none, 7⟩,
   ⟨(some 56), .bin .add (.t 55) (.c (.pv (.int .i64 (1)))), none, 15⟩,
   ⟨(some 9), .mv (.t 56), none, 31⟩] false)
 (.seq (.reg [⟨(some 10), .mv (.c (.pv (.int .i64 (0)))), none, 0⟩] false)
 (.seq (.block 1
  (.loop [0, 1, 5, 6, 7, 8, 9, 10]
   (.seq (.seq (.reg [⟨(some 57), .mv (.t 8), none, 0⟩,
     ⟨(some 58), .mv (.t 9), none, 0⟩,
     ⟨(some 59), .bin .lss (.t 57) (.t 58), none, 3⟩] false)
   (.cond (.t 59)
    (.skip)
    (.exit 1)))
   (.block 2
    (.seq (.seq (.reg [⟨(some 60), .mv (.t 0), none, 0⟩,
      ⟨(some 61), .mv (.t 8), none, 0⟩,
      ⟨(some 62), .sindex (.t 60) (.t 61), none, 3⟩,
      ⟨(some 63), .mv (.t 6), none, 0⟩,
      ⟨(some 64), .bin .neq (.t 62) (.t 63), none, 15⟩] false)
    (.cond (.t 64)
     (.seq (.reg [⟨(some 65), .mv (.t 0), none, 0⟩,
       ⟨(some 66), .mv (.t 8), none, 0⟩,
       ⟨(some 67), .bin .add (.t 66) (.c (.pv (.int .i64 (1)))), none, 2⟩,
       ⟨(some 68), .mv (.t 9), none, 0⟩,
       ⟨(some 69), .sslice (.t 65) (some (.t 67)) (some (.t 68)), none, 15⟩,
       ⟨(some 70), .mv (.t 6), none, 0⟩,
       ⟨(some 71), .call (.f 140) [.t 69, .t 70], none, 63⟩,
       ⟨(some 11), .mv (.t 71), none, 127⟩] false)
     (.seq (.seq (.reg [⟨(some 72), .mv (.t 11), none, 0⟩,
       ⟨(some 73), .bin .lss (.t 72) (.c (.pv (.int .i64 (0)))), none, 1⟩] false)
     (.cond (.t 73)
      (.seq (.reg [⟨(some 4), .mv (.c (.pv (.int .i64 (-1)))), none, 0⟩] false)
      (.ret))
      (.skip)))
     (.reg [⟨(some 74), .mv (.t 8), none, 0⟩,
       ⟨(some 75), .mv (.t 11), none, 0⟩,
       ⟨(some 76), .bin .add (.t 75) (.c (.pv (.int .i64 (1)))), none, 2⟩,
       ⟨(some 77), .bin .add (.t 74) (.t 76), none, 7⟩,
       ⟨(some 8), .mv (.t 77), none, 15⟩] false)))
     (.skip)))
    (.seq (.seq (.reg [⟨(some 78), .mv (.t 0), none, 0⟩,
      ⟨(some 79), .mv (.t 8), none, 0⟩,
      ⟨(some 80), .bin .add (.t 79) (.c (.pv (.int .i64 (1)))), none, 2⟩,
      ⟨(some 81), .sindex (.t 78) (.t 80), none, 7⟩,
      ⟨(some 82), .mv (.t 7), none, 0⟩,
      ⟨(some 83), .bin .eql (.t 81) (.t 82), none, 31⟩,
      ⟨(some 84), .mv (.t 83), none, 63⟩,
      ⟨(some 85), .mv (.t 0), (some (84, true)), 127⟩,
      ⟨(some 86), .mv (.t 8), (some (84, true)), 127⟩,
      ⟨(some 87), .mv (.t 8), (some (84, true)), 127⟩,
      ⟨(some 88), .mv (.t 5), (some (84, true)), 127⟩,
      ⟨(some 89), .bin .add (.t 87) (.t 88), (some (84, true)), 1663⟩,
      ⟨(some 90), .sslice (.t 85) (some (.t 86)) (some (.t 89)), (some (84, true)), 4095⟩,
      ⟨(some 91), .mv (.t 1), (some (84, true)), 127⟩,
      ⟨(some 92), .bin .eql (.t 90) (.t 91), (some (84, true)), 16383⟩,
      ⟨(some 93), .pick (.t 84) (.t 92) (.c (.pv (.bool false))), none, 32767⟩] false)
    (.cond (.t 93)
     (.seq (.reg [⟨(some 94), .mv (.t 8), none, 0⟩,
       ⟨(some 4), .mv (.t 94), none, 1⟩] false)
     (.ret))
     (.skip)))
    (.seq (.reg [⟨(some 95), .mv (.t 8), none, 0⟩,
      ⟨(some 96), .bin .add (.t 95) (.c (.pv (.int .i64 (1)))), none, 1⟩,
      ⟨(some 8), .mv (.t 96), none, 3⟩] false)
    (.seq (.reg [⟨(some 97), .mv (.t 10), none, 0⟩,
      ⟨(some 98), .bin .add (.t 97) (.c (.pv (.int .i64 (1)))), none, 1⟩,
      ⟨(some 10), .mv (.t 98), none, 3⟩] false)
    (.seq (.reg [⟨(some 99), .mv (.t 5), none, 0⟩,
      ⟨(some 100), .load false 1 (.g 0), none, 0⟩,
      ⟨(some 101), .bin .leq (.t 99) (.t 100), none, 3⟩,
      ⟨(some 102), .mv (.t 101), none, 7⟩,
      ⟨(some 103), .mv (.t 10), (some (102, true)), 15⟩,
      ⟨(some 104), .mv (.t 8), (some (102, true)), 15⟩,
      ⟨(some 105), .call (.f 142) [.t 104], (some (102, true)), 47⟩,
      ⟨(some 106), .bin .gtr (.t 103) (.t 105), (some (102, true)), 127⟩,
      ⟨(some 107), .pick (.t 102) (.t 106) (.c (.pv (.bool false))), none, 255⟩] false)
    (.cond (.t 107)
     (.seq (.reg [⟨(some 108), .mv (.t 0), none, 0⟩,
       ⟨(some 109), .mv (.t 8), none, 0⟩,
       ⟨(some 110), .sslice (.t 108) (some (.t 109)) none, none, 3⟩,
       ⟨(some 111), .mv (.t 1), none, 0⟩,
       ⟨(some 112), .call (.f 141) [.t 110, .t 111], none, 15⟩,
       ⟨(some 12), .mv (.t 112), none, 31⟩] false)
     (.seq (.seq (.reg [⟨(some 113), .mv (.t 12), none, 0⟩,
       ⟨(some 114), .bin .geq (.t 113) (.c (.pv (.int .i64 (0)))), none, 1⟩] false)
     (.cond (.t 114)
      (.seq (.reg [⟨(some 115), .mv (.t 12), none, 0⟩,
        ⟨(some 116), .mv (.t 8), none, 0⟩,
        ⟨(some 117), .bin .add (.t 115) (.t 116), none, 3⟩,
        ⟨(some 4), .mv (.t 117), none, 7⟩] false)
      (.ret))
      (.skip)))
     (.seq (.reg [⟨(some 4), .mv (.c (.pv (.int .i64 (-1)))), none, 0⟩] false)
     (.ret))))
     (.seq (.reg [⟨(some 118), .mv (.t 5), none, 0⟩,
       ⟨(some 119), .load false 1 (.g 0), none, 0⟩,
       ⟨(some 120), .bin .gtr (.t 118) (.t 119), none, 3⟩,
       ⟨(some 121), .mv (.t 120), none, 7⟩,
       ⟨(some 122), .mv (.t 10), (some (121, true)), 15⟩,
       ⟨(some 123), .mv (.t 8), (some (121, true)), 15⟩,
       ⟨(some 124), .bin .shr (.t 123) (.c (.pv (.int .u64 (4)))), (some (121, true)), 47⟩,
       ⟨(some 125), .bin .add (.c (.pv (.int .i64 (4)))) (.t 124), (some (121, true)), 111⟩,
       ⟨(some 126), .bin .geq (.t 122) (.t 125), (some (121, true)), 255⟩,
       ⟨(some 127), .pick (.t 121) (.t 126) (.c (.pv (.bool false))), none, 511⟩,
       ⟨(some 128), .mv (.t 127), none, 1023⟩,
       ⟨(some 129), .mv (.t 8), (some (128, true)), 2047⟩,
       ⟨(some 130), .mv (.t 9), (some (128, true)), 2047⟩,
       ⟨(some 131), .bin .lss (.t 129) (.t 130), (some (128, true)), 8191⟩,
       ⟨(some 132), .pick (.t 128) (.t 131) (.c (.pv (.bool false))), none, 16383⟩] false)
     (.cond (.t 132)
      (.seq (.reg [⟨(some 133), .mv (.t 0), none, 0⟩,
        ⟨(some 134), .mv (.t 8), none, 0⟩,
        ⟨(some 135), .sslice (.t 133) (some (.t 134)) none, none, 3⟩,
        ⟨(some 136), .mv (.t 1), none, 0⟩,
        ⟨(some 137), .call (.f 143) [.t 135, .t 136], none, 15⟩,
        ⟨(some 13), .mv (.t 137), none, 31⟩] false)
      (.seq (.seq (.reg [⟨(some 138), .mv (.t 13), none, 0⟩,
        ⟨(some 139), .bin .lss (.t 138) (.c (.pv (.int .i64 (0)))), none, 1⟩] false)
      (.cond (.t 139)
       (.seq (.reg [⟨(some 4), .mv (.c (.pv (.int .i64 (-1)))), none, 0⟩] false)
       (.ret))
       (.skip)))
      (.seq (.reg [⟨(some 140), .mv (.t 8), none, 0⟩,
        ⟨(some 141), .mv (.t 13), none, 0⟩,
        ⟨(some 142), .bin .add (.t 140) (.t 141), none, 3⟩,
        ⟨(some 4), .mv (.t 142), none, 7⟩] false)
      (.ret))))
      (.skip)))))))))))))
 (.seq (.reg [⟨(some 4), .mv (.c (.pv (.int .i64 (-1)))), none, 0⟩] false)
 (.ret))))))))))⟩
def c130 : RFn := ⟨2, 18, [.tmp 4],
 .seq (.reg [⟨(some 4), .mv (.c (.pv (.bool false))), none, 0⟩] false)
 (.seq (.reg [⟨(some 5), .mv (.t 0), none, 0⟩,
   ⟨(some 6), .strlen (.t 5), none, 1⟩,
   ⟨(some 7), .mv (.t 1), none, 0⟩,
   ⟨(some 8), .strlen (.t 7), none, 4⟩,
   ⟨(some 9), .bin .geq (.t 6) (.t 8), none, 15⟩,
   ⟨(some 10), .mv (.t 9), none, 31⟩,
   ⟨(some 11), .mv (.t 0), (some (10, true)), 63⟩,
   ⟨(some 12), .mv (.t 1), (some (10, true)), 63⟩,
   ⟨(some 13), .strlen (.t 12), (some (10, true)), 191⟩,
   ⟨(some 14), .sslice (.t 11) none (some (.t 13)), (some (10, true)), 511⟩,
   ⟨(some 15), .mv (.t 1), (some (10, true)), 63⟩,
   ⟨(some 16), .bin .eql (.t 14) (.t 15), (some (10, true)), 2047⟩,
   ⟨(some 17), .pick (.t 10) (.t 16) (.c (.pv (.bool false))), none, 4095⟩,
   ⟨(some 4), .mv (.t 17), none, 8191⟩] false)
 (.ret))⟩
def c131 : RFn := ⟨0, 15, [.cell 0 true 78],
 .seq (.reg [⟨(some 0), .alloc [.pv (.str []), .pv (.int .i64 (0)), .pv (.int .i64 (0)), .pv (.int .i64 (0)), .pv (.int .i64 (0)), .pv (.int .i64 (0)), .pv (.str []), .pv (.int .i64 (0)), .pv (.int .i64 (0)), .pv (.int .i64 (0)), .pv (.int .i64 (0)), .pv (.int .i64 (0)), .pv (.str []), .pv (.int .i64 (0)), .pv (.int .i64 (0)), .pv (.int .i64 (0)), .pv (.int .i64 (0)), .pv (.int .i64 (0)), .pv (.str []), .pv (.int .i64 (0)), .pv (.int .i64 (0)), .pv (.int .i64 (0)), .pv (.int .i64 (0)), .pv (.int .i64 (0)), .pv (.str []), .pv (.int .i64 (0)), .pv (.int .i64 (0)), .pv (.int .i64 (0)), .pv (.int .i64 (0)), .pv (.int .i64 (0)), .pv (.str []), .pv (.int .i64 (0)), .pv (.int .i64 (0)), .pv (.int .i64 (0)), .pv (.int .i64 (0)), .pv (.int .i64 (0)), .pv (.str []), .pv (.int .i64 (0)), .pv (.int .i64 (0)), .pv (.int .i64 (0)), .pv (.int .i64 (0)), .pv (.int .i64 (0)), .pv (.str []), .pv (.int .i64 (0)), .pv (.int .i64 (0)), .pv (.int .i64 (0)), .pv (.int .i64 (0)), .pv (.int .i64 (0)), .pv (.str []), .pv (.int .i64 (0)), .pv (.int .i64 (0)), .pv (.int .i64 (0)), .pv (.int .i64 (0)), .pv (.int .i64 (0)), .pv (.str []), .pv (.int .i64 (0)), .pv (.int .i64 (0)), .pv (.int .i64 (0)), .pv (.int .i64 (0)), .pv (.int .i64 (0)), .pv (.str []), .pv (.int .i64 (0)), .pv (.int .i64 (0)), .pv (.int .i64 (0)), .pv (.int .i64 (0)), .pv (.int .i64 (0)), .pv (.str []), .pv (.int .i64 (0)), .pv (.int .i64 (0)), .pv (.int .i64 (0)), .pv (.int .i64 (0)), .pv (.int .i64 (0)), .pv (.str []), .pv (.int .i64 (0)), .pv (.int .i64 (0)), .pv (.int .i64 (0)), .pv (.int .i64 (0)), .pv (.int .i64 (0))], none, 0⟩] false)
 (.seq (.reg [⟨(some 1), .build [.pv (.str []), .pv (.int .i64 (0)), .pv (.int .i64 (0)), .pv (.int .i64 (0)), .pv (.int .i64 (0)), .pv (.int .i64 (0))] [(0, 1, .c (.pv (.str [110, 117, 108, 108, 116, 121, 112, 101])))], none, 0⟩,
   ⟨(some 2), .build [.pv (.str []), .pv (.int .i64 (0)), .pv (.int .i64 (0)), .pv (.int .i64 (0)), .pv (.int .i64 (0)), .pv (.int .i64 (0))] [(0, 1, .c (.pv (.str [109, 97, 114, 107, 116, 121, 112, 101])))], none, 0⟩,
   ⟨(some 3), .build [.pv (.str []), .pv (.int .i64 (0)), .pv (.int .i64 (0)), .pv (.int .i64 (0)), .pv (.int .i64 (0)), .pv (.int .i64 (0))] [(0, 1, .c (.pv (.str [98, 111, 111, 108, 101, 97, 110, 116, 121, 112, 101]))), (2, 1, .c (.pv (.int .i64 (1))))], none, 0⟩,
   ⟨(some 4), .build [.pv (.str []), .pv (.int .i64 (0)), .pv (.int .i64 (0)), .pv (.int .i64 (0)), .pv (.int .i64 (0)), .pv (.int .i64 (0))] [(0, 1, .c (.pv (.str [105, 110, 116, 101, 103, 101, 114, 116, 121, 112, 101]))), (1, 1, .c (.pv (.int .i64 (-2147483648)))), (2, 1, .c (.pv (.int .i64 (2147483647))))], none, 0⟩,
   ⟨(some 5), .build [.pv (.str []), .pv (.int .i64 (0)), .pv (.int .i64 (0)), .pv (.int .i64 (0)), .pv (.int .i64 (0)), .pv (.int .i64 (0))] [(0, 1, .c (.pv (.str [114, 101, 97, 108, 116, 121, 112, 101]))), (1, 1, .c (.pv (.int .i64 (-2147483648)))), (2, 1, .c (.pv (.int .i64 (2147483648))))], none, 0⟩,
   ⟨(some 6), .build [.pv (.str []), .pv (.int .i64 (0)), .pv (.int .i64 (0)), .pv (.int .i64 (0)), .pv (.int .i64 (0)), .pv (.int .i64 (0))] [(0, 1, .c (.pv (.str [110, 97, 109, 101, 116, 121, 112, 101]))), (4, 1, .c (.pv (.int .i64 (100))))], none, 0⟩,
   ⟨(some 7), .build [.pv (.str []), .pv (.int .i64 (0)), .pv (.int .i64 (0)), .pv (.int .i64 (0)), .pv (.int .i64 (0)), .pv (.int .i64 (0))] [(0, 1, .c (.pv (.str [115, 116, 114, 105, 110, 103, 116, 121, 112, 101]))), (5, 1, .c (.pv (.int .i64 (1))))], none, 0⟩,
   ⟨(some 8), .build [.pv (.str []), .pv (.int .i64 (0)), .pv (.int .i64 (0)), .pv (.int .i64 (0)), .pv (.int .i64 (0)), .pv (.int .i64 (0))] [(0, 1, .c (.pv (.str [97, 114, 114, 97, 121, 116, 121, 112, 101]))), (5, 1, .c (.pv (.int .i64 (2))))], none, 0⟩,
   ⟨(some 9), .build [.pv (.str []), .pv (.int .i64 (0)), .pv (.int .i64 (0)), .pv (.int .i64 (0)), .pv (.int .i64 (0)), .pv (.int .i64 (0))] [(0, 1, .c (.pv (.str [112, 97, 99, 107, 101, 100, 97, 114, 114, 97, 121, 116, 121, 112, 101]))), (5, 1, .c (.pv (.int .i64 (2))))], none, 0⟩,
   ⟨(some 10), .build [.pv (.str []), .pv (.int .i64 (0)), .pv (.int .i64 (0)), .pv (.int .i64 (0)), .pv (.int .i64 (0)), .pv (.int .i64 (0))] [(0, 1, .c (.pv (.str [100, 105, 99, 116, 116, 121, 112, 101]))), (5, 1, .c (.pv (.int .i64 (3))))], none, 0⟩,
   ⟨(some 11), .build [.pv (.str []), .pv (.int .i64 (0)), .pv (.int .i64 (0)), .pv (.int .i64 (0)), .pv (.int .i64 (0)), .pv (.int .i64 (0))] [(0, 1, .c (.pv (.str [111, 112, 101, 114, 97, 116, 111, 114, 116, 121, 112, 101]))), (3, 1, .c (.pv (.int .i64 (1)))), (4, 1, .c (.pv (.int .i64 (100))))], none, 0⟩,
   ⟨(some 12), .build [.pv (.str []), .pv (.int .i64 (0)), .pv (.int .i64 (0)), .pv (.int .i64 (0)), .pv (.int .i64 (0)), .pv (.int .i64 (0))] [(0, 1, .c (.pv (.str [102, 105, 108, 101, 116, 121, 112, 101]))), (5, 1, .c (.pv (.int .i64 (3))))], none, 0⟩,
   ⟨(some 13), .build [.pv (.str []), .pv (.int .i64 (0)), .pv (.int .i64 (0)), .pv (.int .i64 (0)), .pv (.int .i64 (0)), .pv (.int .i64 (0))] [(0, 1, .c (.pv (.str [115, 97, 118, 101, 116, 121, 112, 101]))), (1, 1, .c (.pv (.int .i64 (1)))), (2, 1, .c (.pv (.int .i64 (9223372036854775807))))], none, 0⟩,
   ⟨(some 14), .build [.pv (.str []), .pv (.int .i64 (0)), .pv (.int .i64 (0)), .pv (.int .i64 (0)), .pv (.int .i64 (0)), .pv (.int .i64 (0)), .pv (.str []), .pv (.int .i64 (0)), .pv (.int .i64 (0)), .pv (.int .i64 (0)), .pv (.int .i64 (0)), .pv (.int .i64 (0)), .pv (.str []), .pv (.int .i64 (0)), .pv (.int .i64 (0)), .pv (.int .i64 (0)), .pv (.int .i64 (0)), .pv (.int .i64 (0)), .pv (.str []), .pv (.int .i64 (0)), .pv (.int .i64 (0)), .pv (.int .i64 (0)), .pv (.int .i64 (0)), .pv (.int .i64 (0)), .pv (.str []), .pv (.int .i64 (0)), .pv (.int .i64 (0)), .pv (.int .i64 (0)), .pv (.int .i64 (0)), .pv (.int .i64 (0)), .pv (.str []), .pv (.int .i64 (0)), .pv (.int .i64 (0)), .pv (.int .i64 (0)), .pv (.int .i64 (0)), .pv (.int .i64 (0)), .pv (.str []), .pv (.int .i64 (0)), .pv (.int .i64 (0)), .pv (.int .i64 (0)), .pv (.int .i64 (0)), .pv (.int .i64 (0)), .pv (.str []), .pv (.int .i64 (0)), .pv (.int .i64 (0)), .pv (.int .i64 (0)), .pv (.int .i64 (0)), .pv (.int .i64 (0)), .pv (.str []), .pv (.int .i64 (0)), .pv (.int .i64 (0)), .pv (.int .i64 (0)), .pv (.int .i64 (0)), .pv (.int .i64 (0)), .pv (.str []), .pv (.int .i64 (0)), .pv (.int .i64 (0)), .pv (.int .i64 (0)), .pv (.int .i64 (0)), .pv (.int .i64 (0)), .pv (.str []), .pv (.int .i64 (0)), .pv (.int .i64 (0)), .pv (.int .i64 (0)), .pv (.int .i64 (0)), .pv (.int .i64 (0)), .pv (.str []), .pv (.int .i64 (0)), .pv (.int .i64 (0)), .pv (.int .i64 (0)), .pv (.int .i64 (0)), .pv (.int .i64 (0)), .pv (.str []), .pv (.int .i64 (0)), .pv (.int .i64 (0)), .pv (.int .i64 (0)), .pv (.int .i64 (0)), .pv (.int .i64 (0))] [(0, 6, .t 1), (6, 6, .t 2), (12, 6, .t 3), (18, 6, .t 4), (24, 6, .t 5), (30, 6, .t 6), (36, 6, .t 7), (42, 6, .t 8), (48, 6, .t 9), (54, 6, .t 10), (60, 6, .t 11), (66, 6, .t 12), (72, 6, .t 13)], none, 8191⟩,
   ⟨none, .store 78 (.t 0) (.t 14), none, 16383⟩] false)
 (.ret))⟩
def c132 : RFn := ⟨2, 17, [.tmp 4],
 .seq (.reg [⟨(some 2), .box 6 (.t 0), none, 0⟩,
   ⟨(some 3), .box 7 (.t 1), none, 0⟩,
   ⟨(some 4), .mv (.c (.pv (.bool false))), none, 0⟩] false)
 (.seq (.reg [⟨(some 5), .faddr (.t 3) 2, none, 0⟩,
   ⟨(some 6), .load false 1 (.t 5), none, 1⟩,
   ⟨(some 7), .faddr (.t 2) 1, none, 0⟩,
   ⟨(some 8), .load false 1 (.t 7), none, 4⟩,
   ⟨(some 9), .bin .geq (.t 6) (.t 8), none, 15⟩,
   ⟨(some 10), .mv (.t 9), none, 31⟩,
   ⟨(some 11), .faddr (.t 3) 2, (some (10, true)), 63⟩,
   ⟨(some 12), .load false 1 (.t 11), (some (10, true)), 127⟩,
   ⟨(some 13), .faddr (.t 2) 2, (some (10, true)), 63⟩,
   ⟨(some 14), .load false 1 (.t 13), (some (10, true)), 319⟩,
   ⟨(some 15), .bin .leq (.t 12) (.t 14), (some (10, true)), 1023⟩,
   ⟨(some 16), .pick (.t 10) (.t 15) (.c (.pv (.bool false))), none, 2047⟩,
   ⟨(some 4), .mv (.t 16), none, 4095⟩] false)
 (.ret))⟩
def c133 : RFn := ⟨2, 19, [.tmp 4],
 .seq (.reg [⟨(some 2), .box 6 (.t 0), none, 0⟩,
   ⟨(some 3), .box 7 (.t 1), none, 0⟩,
   ⟨(some 4), .mv (.c (.pv (.bool false))), none, 0⟩] false)
 (.seq (.reg [⟨(some 5), .faddr (.t 3) 3, none, 0⟩,
   ⟨(some 6), .load false 1 (.t 5), none, 1⟩,
   ⟨(some 7), .strlen (.t 6), none, 3⟩,
   ⟨(some 8), .faddr (.t 2) 3, none, 0⟩,
   ⟨(some 9), .load false 1 (.t 8), none, 8⟩,
   ⟨(some 10), .bin .geq (.t 7) (.t 9), none, 31⟩,
   ⟨(some 11), .mv (.t 10), none, 63⟩,
   ⟨(some 12), .faddr (.t 3) 3, (some (11, true)), 127⟩,
   ⟨(some 13), .load false 1 (.t 12), (some (11, true)), 255⟩,
   ⟨(some 14), .strlen (.t 13), (some (11, true)), 511⟩,
   ⟨(some 15), .faddr (.t 2) 4, (some (11, true)), 127⟩,
   ⟨(some 16), .load false 1 (.t 15), (some (11, true)), 1151⟩,
   ⟨(some 17), .bin .leq (.t 14) (.t 16), (some (11, true)), 4095⟩,
   ⟨(some 18), .pick (.t 11) (.t 17) (.c (.pv (.bool false))), none, 8191⟩,
   ⟨(some 4), .mv (.t 18), none, 16383⟩] false)
 (.ret))⟩
def c134 : RFn := ⟨2, 57, [.tmp 4],
 .seq (.reg [⟨(some 2), .box 6 (.t 0), none, 0⟩,
   ⟨(some 3), .box 7 (.t 1), none, 0⟩,
   ⟨(some 4), .mv (.c (.pv (.bool false))), none, 0⟩] false)
 (.seq (.seq (.reg [⟨(some 6), .faddr (.t 2) 5, none, 0⟩,
   ⟨(some 7), .load false 1 (.t 6), none, 1⟩,
   ⟨(some 8), .bin .eql (.t 7) (.c (.pv (.int .i64 (0)))), none, 3⟩] false)
 (.cond (.t 8)
  (.seq (.reg [⟨(some 9), .faddr (.t 3) 4, none, 0⟩,
    ⟨(some 10), .load false 1 (.t 9), none, 1⟩,
    ⟨(some 11), .bin .eql (.t 10) (.c (.pv (.int .i64 (0)))), none, 3⟩,
    ⟨(some 12), .mv (.t 11), none, 7⟩,
    ⟨(some 13), .faddr (.t 3) 5, (some (12, true)), 15⟩,
    ⟨(some 14), .load false 1 (.t 13), (some (12, true)), 31⟩,
    ⟨(some 15), .bin .eql (.t 14) (.c (.pv (.int .i64 (0)))), (some (12, true)), 63⟩,
    ⟨(some 16), .pick (.t 12) (.t 15) (.c (.pv (.bool false))), none, 127⟩,
    ⟨(some 17), .mv (.t 16), none, 255⟩,
    ⟨(some 18), .faddr (.t 3) 6, (some (17, true)), 511⟩,
    ⟨(some 19), .load false 1 (.t 18), (some (17, true)), 1023⟩,
    ⟨(some 20), .bin .eql (.t 19) (.c (.pv (.int .i64 (0)))), (some (17, true)), 2047⟩,
    ⟨(some 21), .pick (.t 17) (.t 20) (.c (.pv (.bool false))), none, 4095⟩,
    ⟨(some 4), .mv (.t 21), none, 8191⟩] false)
  (.ret))
  (.skip)))
 (.seq (.reg [⟨(some 22), .load true 6 (.t 2), none, 0⟩,
   ⟨(some 23), .call (.f 144) [.t 22], none, 1⟩,
   ⟨(some 5), .mv (.t 23), none, 3⟩] false)
 (.seq (.reg [⟨(some 24), .faddr (.t 3) 4, none, 0⟩,
   ⟨(some 25), .load false 1 (.t 24), none, 1⟩,
   ⟨(some 26), .bin .geq (.t 25) (.c (.pv (.int .i64 (0)))), none, 3⟩,
   ⟨(some 27), .mv (.t 26), none, 7⟩,
   ⟨(some 28), .faddr (.t 3) 4, (some (27, true)), 15⟩,
   ⟨(some 29), .load false 1 (.t 28), (some (27, true)), 31⟩,
   ⟨(some 30), .bin .leq (.t 29) (.c (.pv (.int .i64 (20000)))), (some (27, true)), 63⟩,
   ⟨(some 31), .pick (.t 27) (.t 30) (.c (.pv (.bool false))), none, 127⟩,
   ⟨(some 32), .mv (.t 31), none, 255⟩,
   ⟨(some 33), .faddr (.t 3) 5, (some (32, true)), 511⟩,
   ⟨(some 34), .load false 1 (.t 33), (some (32, true)), 1023⟩,
   ⟨(some 35), .bin .geq (.t 34) (.c (.pv (.int .i64 (0)))), (some (32, true)), 2047⟩,
   ⟨(some 36), .pick (.t 32) (.t 35) (.c (.pv (.bool false))), none, 4095⟩,
   ⟨(some 37), .mv (.t 36), none, 8191⟩,
   ⟨(some 38), .faddr (.t 3) 6, (some (37, true)), 16383⟩,
   ⟨(some 39), .load false 1 (.t 38), (some (37, true)), 32767⟩,
   ⟨(some 40), .bin .geq (.t 39) (.c (.pv (.int .i64 (0)))), (some (37, true)), 65535⟩,
   ⟨(some 41), .pick (.t 37) (.t 40) (.c (.pv (.bool false))), none, 131071⟩,
   ⟨(some 42), .mv (.t 41), none, 262143⟩,
   ⟨(some 43), .faddr (.t 3) 5, (some (42, true)), 524287⟩,
   ⟨(some 44), .load false 1 (.t 43), (some (42, true)), 1048575⟩,
   ⟨(some 45), .mv (.t 5), (some (42, true)), 524287⟩,
   ⟨(some 46), .bin .leq (.t 44) (.t 45), (some (42, true)), 4194303⟩,
   ⟨(some 47), .pick (.t 42) (.t 46) (.c (.pv (.bool false))), none, 8388607⟩,
   ⟨(some 48), .mv (.t 47), none, 16777215⟩,
   ⟨(some 49), .faddr (.t 3) 6, (some (48, true)), 33554431⟩,
   ⟨(some 50), .load false 1 (.t 49), (some (48, true)), 67108863⟩,
   ⟨(some 51), .mv (.t 5), (some (48, true)), 33554431⟩,
   ⟨(some 52), .faddr (.t 3) 5, (some (48, true)), 33554431⟩,
   ⟨(some 53), .load false 1 (.t 52), (some (48, true)), 301989887⟩,
   ⟨(some 54), .bin .sub (.t 51) (.t 53), (some (48, true)), 973078527⟩,
   ⟨(some 55), .bin .leq (.t 50) (.t 54), (some (48, true)), 2147483647⟩,
   ⟨(some 56), .pick (.t 48) (.t 55) (.c (.pv (.bool false))), none, 4294967295⟩,
   ⟨(some 4), .mv (.t 56), none, 8589934591⟩] false)
 (.ret))))⟩
def c138 : RFn := ⟨2, 19, [.tmp 4],
 .seq (.reg [⟨(some 4), .mv (.c (.pv (.int .i64 (0)))), none, 0⟩] false)
 (.seq (.seq (.reg [⟨(some 6), .mv (.t 0), none, 0⟩,
   ⟨(some 7), .slen (.t 6), none, 1⟩,
   ⟨(some 8), .mv (.c (.pv (.int .i64 (0)))), none, 0⟩] false)
 (.block 0
  (.loop [0, 1, 7, 8]
   (.seq (.reg [⟨(some 9), .bin .lss (.t 8) (.t 7), none, 0⟩] false)
   (.seq (.cond (.t 9)
    (.skip)
    (.exit 0))
   (.seq (.block 1
    (.seq (.reg [⟨(some 10), .mv (.t 8), none, 0⟩,
      ⟨(some 5), .mv (.t 10), none, 1⟩] false)
    (.seq (.reg [⟨(some 11), .mv (.t 1), none, 0⟩,
      ⟨(some 12), .mv (.t 0), none, 0⟩,
      ⟨(some 13), .mv (.t 5), none, 0⟩,
      ⟨(some 14), .iaddr 1 (.t 12) (.t 13), none, 6⟩,
      ⟨(some 15), .load false 1 (.t 14), none, 14⟩,
      ⟨(some 16), .bin .eql (.t 11) (.t 15), none, 31⟩] false)
    (.cond (.t 16)
     (.seq (.reg [⟨(some 17), .mv (.t 5), none, 0⟩,
       ⟨(some 4), .mv (.t 17), none, 1⟩] false)
     (.ret))
     (.skip)))))
   (.reg [⟨(some 18), .bin .add (.t 8) (.c (.pv (.int .i64 (1)))), none, 0⟩,
     ⟨(some 8), .mv (.t 18), none, 1⟩] false)))))))
 (.seq (.reg [⟨(some 4), .mv (.c (.pv (.int .i64 (-1)))), none, 0⟩] false)
 (.ret)))⟩
def c139 : RFn := ⟨1, 11, [.tmp 2],
 .seq (.reg [⟨(some 1), .box 7 (.t 0), none, 0⟩,
   ⟨(some 2), .mv (.c (.pv (.bool false))), none, 0⟩] false)
 (.seq (.reg [⟨(some 3), .faddr (.t 1) 0, none, 0⟩,
   ⟨(some 4), .load false 1 (.t 3), none, 1⟩,
   ⟨(some 5), .bin .eql (.t 4) (.c (.pv (.int .i64 (7)))), none, 3⟩,
   ⟨(some 6), .mv (.t 5), none, 7⟩,
   ⟨(some 7), .faddr (.t 1) 0, (some (6, false)), 15⟩,
   ⟨(some 8), .load false 1 (.t 7), (some (6, false)), 31⟩,
   ⟨(some 9), .bin .eql (.t 8) (.c (.pv (.int .i64 (8)))), (some (6, false)), 63⟩,
   ⟨(some 10), .pick (.t 6) (.c (.pv (.bool true))) (.t 9), none, 127⟩,
   ⟨(some 2), .mv (.t 10), none, 255⟩] false)
 (.ret))⟩
def c140 : RFn := ⟨2, 8, [.tmp 4],
 .seq (.reg [⟨(some 4), .mv (.c (.pv (.int .i64 (0)))), none, 0⟩] false)
 (.seq (.reg [⟨(some 5), .mv (.t 0), none, 0⟩,
   ⟨(some 6), .mv (.t 1), none, 0⟩,
   ⟨(some 7), .call (.f 147) [.t 5, .t 6], none, 3⟩,
   ⟨(some 4), .mv (.t 7), none, 7⟩] false)
 (.ret))⟩
def c142 : RFn := ⟨1, 6, [.tmp 2],
 .seq (.reg [⟨(some 2), .mv (.c (.pv (.int .i64 (0)))), none, 0⟩] false)
 (.seq (.reg [⟨(some 3), .mv (.t 0), none, 0⟩,
   ⟨(some 4), .bin .add (.t 3) (.c (.pv (.int .i64 (16)))), none, 1⟩,
   ⟨(some 5), .bin .quo (.t 4) (.c (.pv (.int .i64 (8)))), none, 3⟩,
   ⟨(some 2), .mv (.t 5), none, 7⟩] false)
 (.ret))⟩
def c143 : RFn := ⟨2, 81, [.tmp 4],
 .seq (.reg [⟨(some 4), .mv (.c (.pv (.int .i64 (0)))), none, 0⟩] false)
 (.seq (.reg [⟨(some 12), .mv (.t 1), none, 0⟩,
   ⟨(some 13), .call (.f 148) [.t 12], none, 1⟩,
   ⟨(some 11), .mv (.t 13), none, 3⟩,
   ⟨(some 14), .extract (.t 11) 0, none, 7⟩,
   ⟨(some 15), .extract (.t 11) 1, none, 7⟩,
   ⟨(some 5), .mv (.t 14), none, 15⟩,
   ⟨(some 6), .mv (.t 15), none, 63⟩] false)
 (.seq (.reg [⟨(some 16), .mv (.t 1), none, 0⟩,
   ⟨(some 17), .strlen (.t 16), none, 1⟩,
   ⟨(some 7), .mv (.t 17), none, 3⟩] false)
 (.seq (.reg [⟨(some 8), .mv (.c (.pv (.int .u32 (0)))), none, 0⟩] false)
 (.seq (.seq (.reg [⟨(some 9), .mv (.c (.pv (.int .i64 (0)))), none, 0⟩] false)
 (.block 0
  (.loop [0, 1, 5, 6, 7, 8, 9]
   (.seq (.seq (.reg [⟨(some 18), .mv (.t 9), none, 0⟩,
     ⟨(some 19), .mv (.t 7), none, 0⟩,
     ⟨(some 20), .bin .lss (.t 18) (.t 19), none, 3⟩] false)
   (.cond (.t 20)
    (.skip)
    (.exit 0)))
   (.seq (.block 1
    (.reg [⟨(some 23), .mv (.t 8), none, 0⟩,
      ⟨(some 24), .bin .mul (.t 23) (.c (.pv (.int .u32 (16777619)))), none, 1⟩,
      ⟨(some 25), .mv (.t 0), none, 0⟩,
      ⟨(some 26), .mv (.t 9), none, 0⟩,
      ⟨(some 27), .sindex (.t 25) (.t 26), none, 12⟩,
      ⟨(some 28), .conv .u32 (.t 27), none, 28⟩,
      ⟨(some 29), .bin .add (.t 24) (.t 28), none, 63⟩,
      ⟨(some 8), .mv (.t 29), none, 127⟩] false))
   (.reg [⟨(some 21), .mv (.t 9), none, 0⟩,
     ⟨(some 22), .bin .add (.t 21) (.c (.pv (.int .i64 (1)))), none, 1⟩,
     ⟨(some 9), .mv (.t 22), none, 3⟩] false))))))
 (.seq (.seq (.reg [⟨(some 30), .mv (.t 8), none, 0⟩,
   ⟨(some 31), .mv (.t 5), none, 0⟩,
   ⟨(some 32), .bin .eql (.t 30) (.t 31), none, 3⟩,
   ⟨(some 33), .mv (.t 32), none, 7⟩,
   ⟨(some 34), .mv (.t 0), (some (33, true)), 15⟩,
   ⟨(some 35), .mv (.t 7), (some (33, true)), 15⟩,
   ⟨(some 36), .sslice (.t 34) none (some (.t 35)), (some (33, true)), 63⟩,
   ⟨(some 37), .mv (.t 1), (some (33, true)), 15⟩,
   ⟨(some 38), .bin .eql (.t 36) (.t 37), (some (33, true)), 255⟩,
   ⟨(some 39), .pick (.t 33) (.t 38) (.c (.pv (.bool false))), none, 511⟩] false)
 (.cond (.t 39)
  (.seq (.reg [⟨(some 4), .mv (.c (.pv (.int .i64 (0)))), none, 0⟩] false)
  (.ret))
  (.skip)))
 (.seq (.seq (.reg [⟨(some 40), .mv (.t 7), none, 0⟩,
   ⟨(some 10), .mv (.t 40), none, 1⟩] false)
 (.block 2
  (.loop [0, 1, 5, 6, 7, 8, 10]
   (.seq (.seq (.reg [⟨(some 41), .mv (.t 10), none, 0⟩,
     ⟨(some 42), .mv (.t 0), none, 0⟩,
     ⟨(some 43), .strlen (.t 42), none, 2⟩,
     ⟨(some 44), .bin .lss (.t 41) (.t 43), none, 7⟩] false)
   (.cond (.t 44)
    (.skip)
    (.exit 2)))
   (.block 3
    (.seq (.reg [⟨(some 45), .mv (.t 8), none, 0⟩,
      ⟨(some 46), .bin .mul (.t 45) (.c (.pv (.int .u32 (16777619)))), none, 1⟩,
      ⟨(some 8), .mv (.t 46), none, 3⟩] false)
    (.seq (.reg [⟨(some 47), .mv (.t 8), none, 0⟩,
      ⟨(some 48), .mv (.t 0), none, 0⟩,
      ⟨(some 49), .mv (.t 10), none, 0⟩,
      ⟨(some 50), .sindex (.t 48) (.t 49), none, 6⟩,
      ⟨(some 51), .conv .u32 (.t 50), none, 14⟩,
      ⟨(some 52), .bin .add (.t 47) (.t 51), none, 31⟩,
      ⟨(some 8), .mv (.t 52), none, 63⟩] false)
    (.seq (.reg [⟨(some 53), .mv (.t 8), none, 0⟩,
      ⟨(some 54), .mv (.t 6), none, 0⟩,
      ⟨(some 55), .mv (.t 0), none, 0⟩,
      ⟨(some 56), .mv (.t 10), none, 0⟩,
      ⟨(some 57), .mv (.t 7), none, 0⟩,
      ⟨(some 58), .bin .sub (.t 56) (.t 57), none, 24⟩,
      ⟨(some 59), .sindex (.t 55) (.t 58), none, 60⟩,
      ⟨(some 60), .conv .u32 (.t 59), none, 124⟩,
      ⟨(some 61), .bin .mul (.t 54) (.t 60), none, 254⟩,
      ⟨(some 62), .bin .sub (.t 53) (.t 61), none, 511⟩,
      ⟨(some 8), .mv (.t 62), none, 1023⟩] false)
    (.seq (.reg [⟨(some 63), .mv (.t 10), none, 0⟩,
      ⟨(some 64), .bin .add (.t 63) (.c (.pv (.int .i64 (1)))), none, 1⟩,
      ⟨(some 10), .mv (.t 64), none, 3⟩] false)
    (.seq (.reg [⟨(some 65), .mv (.t 8), none, 0⟩,
      ⟨(some 66), .mv (.t 5), none, 0⟩,
      ⟨(some 67), .bin .eql (.t 65) (.t 66), none, 3⟩,
      ⟨(some 68), .mv (.t 67), none, 7⟩,
      ⟨(some 69), .mv (.t 0), (some (68, true)), 15⟩,
      ⟨(some 70), .mv (.t 10), (some (68, true)), 15⟩,
      ⟨(some 71), .mv (.t 7), (some (68, true)), 15⟩,
      ⟨(some 72), .bin .sub (.t 70) (.t 71), (some (68, true)), 111⟩,
      ⟨(some 73), .mv (.t 10), (some (68, true)), 15⟩,
      ⟨(some 74), .sslice (.t 69) (some (.t 72)) (some (.t 73)), (some (68, true)), 511⟩,
      ⟨(some 75), .mv (.t 1), (some (68, true)), 15⟩,
      ⟨(some 76), .bin .eql (.t 74) (.t 75), (some (68, true)), 2047⟩,
      ⟨(some 77), .pick (.t 68) (.t 76) (.c (.pv (.bool false))), none, 4095⟩] false)
    (.cond (.t 77)
     (.seq (.reg [⟨(some 78), .mv (.t 10), none, 0⟩,
       ⟨(some 79), .mv (.t 7), none, 0⟩,
       ⟨(some 80), .bin .sub (.t 78) (.t 79), none, 3⟩,
       ⟨(some 4), .mv (.t 80), none, 7⟩] false)
     (.ret))
     (.skip))))))))))))
 (.seq (.reg [⟨(some 4), .mv (.c (.pv (.int .i64 (-1)))), none, 0⟩] false)
 (.ret))))))))⟩
def c144 : RFn := ⟨1, 7, [.tmp 2],
 .seq (.reg [⟨(some 1), .box 6 (.t 0), none, 0⟩,
   ⟨(some 2), .mv (.c (.pv (.int .i64 (0)))), none, 0⟩] false)
 (.seq (.reg [⟨(some 3), .build [.pv (.int .i64 (0)), .pv (.int .i64 (0)), .pv (.int .i64 (0)), .pv (.int .i64 (0))] [(0, 1, .c (.pv (.int .i64 (0)))), (1, 1, .c (.pv (.int .i64 (1000)))), (2, 1, .c (.pv (.int .i64 (1000)))), (3, 1, .c (.pv (.int .i64 (0))))], none, 0⟩,
   ⟨(some 4), .faddr (.t 1) 5, none, 0⟩,
   ⟨(some 5), .load false 1 (.t 4), none, 2⟩,
   ⟨(some 6), .index false 4 1 (.t 3) (.t 5), none, 7⟩,
   ⟨(some 2), .mv (.t 6), none, 15⟩] false)
 (.ret))⟩
def c148 : RFn := ⟨1, 39, [.tmp 2, .tmp 3],
 .seq (.reg [⟨(some 2), .mv (.c (.pv (.int .u32 (0)))), none, 0⟩,
   ⟨(some 3), .mv (.c (.pv (.int .u32 (0)))), none, 1⟩] false)
 (.seq (.reg [⟨(some 4), .mv (.c (.pv (.int .u32 (0)))), none, 0⟩] false)
 (.seq (.seq (.reg [⟨(some 5), .mv (.c (.pv (.int .i64 (0)))), none, 0⟩] false)
 (.block 0
  (.loop [0, 4, 5]
   (.seq (.seq (.reg [⟨(some 9), .mv (.t 5), none, 0⟩,
     ⟨(some 10), .mv (.t 0), none, 0⟩,
     ⟨(some 11), .strlen (.t 10), none, 2⟩,
     ⟨(some 12), .bin .lss (.t 9) (.t 11), none, 7⟩] false)
   (.cond (.t 12)
    (.skip)
    (.exit 0)))
   (.seq (.block 1
    (.reg [⟨(some 15), .mv (.t 4), none, 0⟩,
      ⟨(some 16), .bin .mul (.t 15) (.c (.pv (.int .u32 (16777619)))), none, 1⟩,
      ⟨(some 17), .mv (.t 0), none, 0⟩,
      ⟨(some 18), .mv (.t 5), none, 0⟩,
      ⟨(some 19), .sindex (.t 17) (.t 18), none, 12⟩,
      ⟨(some 20), .conv .u32 (.t 19), none, 28⟩,
      ⟨(some 21), .bin .add (.t 16) (.t 20), none, 63⟩,
      ⟨(some 4), .mv (.t 21), none, 127⟩] false))
   (.reg [⟨(some 13), .mv (.t 5), none, 0⟩,
     ⟨(some 14), .bin .add (.t 13) (.c (.pv (.int .i64 (1)))), none, 1⟩,
     ⟨(some 5), .mv (.t 14), none, 3⟩] false))))))
 (.seq (.reg [⟨(some 6), .mv (.c (.pv (.int .u32 (1)))), none, 0⟩,
   ⟨(some 7), .mv (.c (.pv (.int .u32 (16777619)))), none, 1⟩] false)
 (.seq (.seq (.reg [⟨(some 22), .mv (.t 0), none, 0⟩,
   ⟨(some 23), .strlen (.t 22), none, 1⟩,
   ⟨(some 8), .mv (.t 23), none, 3⟩] false)
 (.block 2
  (.loop [4, 6, 7, 8]
   (.seq (.seq (.reg [⟨(some 24), .mv (.t 8), none, 0⟩,
     ⟨(some 25), .bin .gtr (.t 24) (.c (.pv (.int .i64 (0)))), none, 1⟩] false)
   (.cond (.t 25)
    (.skip)
    (.exit 2)))
   (.seq (.block 3
    (.seq (.seq (.reg [⟨(some 28), .mv (.t 8), none, 0⟩,
      ⟨(some 29), .bin .and (.t 28) (.c (.pv (.int .i64 (1)))), none, 1⟩,
      ⟨(some 30), .bin .neq (.t 29) (.c (.pv (.int .i64 (0)))), none, 3⟩] false)
    (.cond (.t 30)
     (.reg [⟨(some 31), .mv (.t 6), none, 0⟩,
       ⟨(some 32), .mv (.t 7), none, 0⟩,
       ⟨(some 33), .bin .mul (.t 31) (.t 32), none, 3⟩,
       ⟨(some 6), .mv (.t 33), none, 7⟩] false)
     (.skip)))
    (.reg [⟨(some 34), .mv (.t 7), none, 0⟩,
      ⟨(some 35), .mv (.t 7), none, 0⟩,
      ⟨(some 36), .bin .mul (.t 34) (.t 35), none, 3⟩,
      ⟨(some 7), .mv (.t 36), none, 7⟩] false)))
   (.reg [⟨(some 26), .mv (.t 8), none, 0⟩,
     ⟨(some 27), .bin .shr (.t 26) (.c (.pv (.int .u64 (1)))), none, 1⟩,
     ⟨(some 8), .mv (.t 27), none, 3⟩] false))))))
 (.seq (.reg [⟨(some 37), .mv (.t 4), none, 0⟩,
   ⟨(some 38), .mv (.t 6), none, 0⟩,
   ⟨(some 2), .mv (.t 37), none, 1⟩,
   ⟨(some 3), .mv (.t 38), none, 7⟩] false)
 (.ret))))))⟩
end Go.Ab.Ck
