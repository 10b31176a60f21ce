/- The code of functions of the program, printed by a program. Under: nothing. -/
import Derived.Test.YthpnccneaaeomaaAb41
namespace Go.Ab.Ck
open Go.Ab
def c4 : RFn := ⟨0, 455, [.tmp 0],
 .seq (.reg [⟨(some 0), .mv (.c (.pv (.bool false))), none, 0⟩] false)
 (.seq (.seq (.reg [⟨(some 22), .call (.f 16) [], none, 0⟩,
   ⟨(some 23), .not (.t 22), none, 1⟩] false)
 (.cond (.t 23)
  (.seq (.reg [⟨(some 0), .mv (.c (.pv (.bool false))), none, 0⟩] false)
  (.ret))
  (.skip)))
 (.seq (.reg [⟨(some 24), .build [.pv (.int .i64 (0)), .pv (.bool false), .pv (.int .i64 (0)), .pv (.str []), .pv (.int .i64 (0)), .pv (.int .i64 (0)), .pv (.int .i64 (0))] [(0, 1, .c (.pv (.int .i64 (1))))], none, 0⟩,
   ⟨(some 25), .build [.pv (.int .i64 (0)), .pv (.bool false), .pv (.int .i64 (0)), .pv (.str []), .pv (.int .i64 (0)), .pv (.int .i64 (0)), .pv (.int .i64 (0))] [(0, 1, .c (.pv (.int .i64 (5)))), (3, 1, .c (.pv (.str [97, 98, 99, 100])))], none, 0⟩,
   ⟨(some 1), .alloc [.pv (.int .i64 (0)), .pv (.bool false), .pv (.int .i64 (0)), .pv (.str []), .pv (.int .i64 (0)), .pv (.int .i64 (0)), .pv (.int .i64 (0))], none, 0⟩,
   ⟨(some 2), .alloc [.pv (.int .i64 (0)), .pv (.bool false), .pv (.int .i64 (0)), .pv (.str []), .pv (.int .i64 (0)), .pv (.int .i64 (0)), .pv (.int .i64 (0))], none, 0⟩,
   ⟨none, .store 7 (.t 1) (.t 24), none, 13⟩,
   ⟨none, .store 7 (.t 2) (.t 25), none, 31⟩] false)
 (.seq (.reg [⟨(some 26), .build [.pv (.int .i64 (0)), .pv (.bool false), .pv (.int .i64 (0)), .pv (.str []), .pv (.int .i64 (0)), .pv (.int .i64 (0)), .pv (.int .i64 (0))] [(0, 1, .c (.pv (.int .i64 (2)))), (2, 1, .c (.pv (.int .i64 (1))))], none, 0⟩,
   ⟨(some 27), .build [.pv (.int .i64 (0)), .pv (.bool false), .pv (.int .i64 (0)), .pv (.str []), .pv (.int .i64 (0)), .pv (.int .i64 (0)), .pv (.int .i64 (0))] [(0, 1, .c (.pv (.int .i64 (2))))], none, 0⟩,
   ⟨(some 3), .alloc [.pv (.int .i64 (0)), .pv (.bool false), .pv (.int .i64 (0)), .pv (.str []), .pv (.int .i64 (0)), .pv (.int .i64 (0)), .pv (.int .i64 (0))], none, 0⟩,
   ⟨(some 4), .alloc [.pv (.int .i64 (0)), .pv (.bool false), .pv (.int .i64 (0)), .pv (.str []), .pv (.int .i64 (0)), .pv (.int .i64 (0)), .pv (.int .i64 (0))], none, 0⟩,
   ⟨none, .store 7 (.t 3) (.t 26), none, 13⟩,
   ⟨none, .store 7 (.t 4) (.t 27), none, 31⟩] false)
 (.seq (.reg [⟨(some 5), .mv (.f 17), none, 0⟩] false)
 (.seq (.reg [⟨(some 28), .call (.f 19) [.c (.pv (.int .i64 (6)))], none, 0⟩,
   ⟨(some 29), .bsl 7 1 [.pv (.int .i64 (0)), .pv (.bool false), .pv (.int .i64 (0)), .pv (.str []), .pv (.int .i64 (0)), .pv (.int .i64 (0)), .pv (.int .i64 (0))] [(0, .t 28)], none, 1⟩,
   ⟨(some 30), .call (.f 20) [.c (.pv (.int .i64 (0))), .c (.pv (.int .i64 (6)))], none, 1⟩,
   ⟨(some 31), .bsl 7 1 [.pv (.int .i64 (0)), .pv (.bool false), .pv (.int .i64 (0)), .pv (.str []), .pv (.int .i64 (0)), .pv (.int .i64 (0)), .pv (.int .i64 (0))] [(0, .t 30)], none, 5⟩,
   ⟨(some 32), .call (.f 18) [.c (.pv (.str [108, 101, 110, 103, 116, 104])), .t 29, .t 31], none, 15⟩,
   ⟨(some 33), .mv (.t 32), none, 31⟩,
   ⟨(some 34), .call (.f 19) [.c (.pv (.int .i64 (4)))], (some (33, true)), 63⟩,
   ⟨(some 35), .bsl 7 1 [.pv (.int .i64 (0)), .pv (.bool false), .pv (.int .i64 (0)), .pv (.str []), .pv (.int .i64 (0)), .pv (.int .i64 (0)), .pv (.int .i64 (0))] [(0, .t 34)], (some (33, true)), 127⟩,
   ⟨(some 36), .load true 7 (.t 2), (some (33, true)), 63⟩,
   ⟨(some 37), .bsl 7 1 [.pv (.int .i64 (0)), .pv (.bool false), .pv (.int .i64 (0)), .pv (.str []), .pv (.int .i64 (0)), .pv (.int .i64 (0)), .pv (.int .i64 (0))] [(0, .t 36)], (some (33, true)), 319⟩,
   ⟨(some 38), .call (.f 18) [.c (.pv (.str [108, 101, 110, 103, 116, 104])), .t 35, .t 37], (some (33, true)), 1023⟩,
   ⟨(some 39), .pick (.t 33) (.t 38) (.c (.pv (.bool false))), none, 2047⟩,
   ⟨(some 40), .mv (.t 39), none, 4095⟩,
   ⟨(some 41), .call (.f 19) [.c (.pv (.int .i64 (3)))], (some (40, true)), 8191⟩,
   ⟨(some 42), .bsl 7 1 [.pv (.int .i64 (0)), .pv (.bool false), .pv (.int .i64 (0)), .pv (.str []), .pv (.int .i64 (0)), .pv (.int .i64 (0)), .pv (.int .i64 (0))] [(0, .t 41)], (some (40, true)), 16383⟩,
   ⟨(some 43), .call (.f 21) [.c (.pv (.int .i64 (2))), .c (.pv (.int .i64 (3)))], (some (40, true)), 16383⟩,
   ⟨(some 44), .bsl 7 1 [.pv (.int .i64 (0)), .pv (.bool false), .pv (.int .i64 (0)), .pv (.str []), .pv (.int .i64 (0)), .pv (.int .i64 (0)), .pv (.int .i64 (0))] [(0, .t 43)], (some (40, true)), 49151⟩,
   ⟨(some 45), .call (.f 18) [.c (.pv (.str [108, 101, 110, 103, 116, 104])), .t 42, .t 44], (some (40, true)), 131071⟩,
   ⟨(some 46), .pick (.t 40) (.t 45) (.c (.pv (.bool false))), none, 262143⟩,
   ⟨(some 47), .mv (.t 46), none, 524287⟩,
   ⟨(some 48), .call (.f 19) [.c (.pv (.int .i64 (6)))], (some (47, true)), 1048575⟩,
   ⟨(some 49), .bsl 7 1 [.pv (.int .i64 (0)), .pv (.bool false), .pv (.int .i64 (0)), .pv (.str []), .pv (.int .i64 (0)), .pv (.int .i64 (0)), .pv (.int .i64 (0))] [(0, .t 48)], (some (47, true)), 2097151⟩,
   ⟨(some 50), .call (.f 22) [.c (.pv (.int .i64 (1))), .c (.pv (.int .i64 (2)))], (some (47, true)), 2097151⟩,
   ⟨(some 51), .call (.f 19) [.c (.pv (.int .i64 (1)))], (some (47, true)), 6291455⟩,
   ⟨(some 52), .bsl 7 2 [.pv (.int .i64 (0)), .pv (.bool false), .pv (.int .i64 (0)), .pv (.str []), .pv (.int .i64 (0)), .pv (.int .i64 (0)), .pv (.int .i64 (0))] [(0, .t 50), (1, .t 51)], (some (47, true)), 14680063⟩,
   ⟨(some 53), .call (.f 18) [.c (.pv (.str [103, 101, 116])), .t 49, .t 52], (some (47, true)), 33554431⟩,
   ⟨(some 54), .pick (.t 47) (.t 53) (.c (.pv (.bool false))), none, 67108863⟩,
   ⟨(some 55), .mv (.t 54), none, 134217727⟩,
   ⟨(some 56), .call (.f 19) [.c (.pv (.int .i64 (1)))], (some (55, true)), 268435455⟩,
   ⟨(some 57), .load true 7 (.t 1), (some (55, true)), 268435455⟩,
   ⟨(some 58), .bsl 7 2 [.pv (.int .i64 (0)), .pv (.bool false), .pv (.int .i64 (0)), .pv (.str []), .pv (.int .i64 (0)), .pv (.int .i64 (0)), .pv (.int .i64 (0))] [(0, .t 56), (1, .t 57)], (some (55, true)), 1073741823⟩,
   ⟨(some 59), .call (.f 19) [.c (.pv (.int .i64 (1)))], (some (55, true)), 536870911⟩,
   ⟨(some 60), .bsl 7 1 [.pv (.int .i64 (0)), .pv (.bool false), .pv (.int .i64 (0)), .pv (.str []), .pv (.int .i64 (0)), .pv (.int .i64 (0)), .pv (.int .i64 (0))] [(0, .t 59)], (some (55, true)), 2684354559⟩,
   ⟨(some 61), .call (.f 18) [.c (.pv (.str [91])), .t 58, .t 60], (some (55, true)), 8589934591⟩,
   ⟨(some 62), .pick (.t 55) (.t 61) (.c (.pv (.bool false))), none, 17179869183⟩,
   ⟨(some 63), .mv (.t 62), none, 34359738367⟩,
   ⟨(some 64), .mv (.t 5), (some (63, true)), 68719476735⟩,
   ⟨(some 65), .call (.t 64) [.c (.pv (.int .i64 (6))), .c (.pv (.int .i64 (0)))], (some (63, true)), 137438953471⟩,
   ⟨(some 66), .mv (.t 5), (some (63, true)), 68719476735⟩,
   ⟨(some 67), .call (.t 66) [.c (.pv (.int .i64 (0))), .c (.pv (.int .i64 (6)))], (some (63, true)), 549755813887⟩,
   ⟨(some 68), .mv (.t 5), (some (63, true)), 68719476735⟩,
   ⟨(some 69), .call (.t 68) [.c (.pv (.int .i64 (0))), .c (.pv (.int .i64 (0)))], (some (63, true)), 2199023255551⟩,
   ⟨(some 70), .load true 7 (.t 3), (some (63, true)), 68719476735⟩,
   ⟨(some 71), .bsl 7 4 [.pv (.int .i64 (0)), .pv (.bool false), .pv (.int .i64 (0)), .pv (.str []), .pv (.int .i64 (0)), .pv (.int .i64 (0)), .pv (.int .i64 (0))] [(0, .t 65), (1, .t 67), (2, .t 69), (3, .t 70)], (some (63, true)), 8796093022207⟩,
   ⟨(some 72), .call (.f 20) [.c (.pv (.int .i64 (0))), .c (.pv (.int .i64 (6)))], (some (63, true)), 4398046511103⟩,
   ⟨(some 73), .call (.f 20) [.c (.pv (.int .i64 (0))), .c (.pv (.int .i64 (6)))], (some (63, true)), 21990232555519⟩,
   ⟨(some 74), .bsl 7 2 [.pv (.int .i64 (0)), .pv (.bool false), .pv (.int .i64 (0)), .pv (.str []), .pv (.int .i64 (0)), .pv (.int .i64 (0)), .pv (.int .i64 (0))] [(0, .t 72), (1, .t 73)], (some (63, true)), 57174604644351⟩,
   ⟨(some 75), .call (.f 18) [.c (.pv (.str [115, 101, 97, 114, 99, 104])), .t 71, .t 74], (some (63, true)), 140737488355327⟩,
   ⟨(some 76), .pick (.t 63) (.t 75) (.c (.pv (.bool false))), none, 281474976710655⟩,
   ⟨(some 77), .mv (.t 76), none, 562949953421311⟩,
   ⟨(some 78), .mv (.t 5), (some (77, true)), 1125899906842623⟩,
   ⟨(some 79), .call (.t 78) [.c (.pv (.int .i64 (0))), .c (.pv (.int .i64 (3)))], (some (77, true)), 2251799813685247⟩,
   ⟨(some 80), .load true 7 (.t 4), (some (77, true)), 1125899906842623⟩,
   ⟨(some 81), .bsl 7 2 [.pv (.int .i64 (0)), .pv (.bool false), .pv (.int .i64 (0)), .pv (.str []), .pv (.int .i64 (0)), .pv (.int .i64 (0)), .pv (.int .i64 (0))] [(0, .t 79), (1, .t 80)], (some (77, true)), 9007199254740991⟩,
   ⟨(some 82), .mv (.t 5), (some (77, true)), 1125899906842623⟩,
   ⟨(some 83), .call (.t 82) [.c (.pv (.int .i64 (0))), .c (.pv (.int .i64 (3)))], (some (77, true)), 22517998136852479⟩,
   ⟨(some 84), .call (.f 20) [.c (.pv (.int .i64 (3))), .c (.pv (.int .i64 (2)))], (some (77, true)), 58546795155816447⟩,
   ⟨(some 85), .bsl 7 2 [.pv (.int .i64 (0)), .pv (.bool false), .pv (.int .i64 (0)), .pv (.str []), .pv (.int .i64 (0)), .pv (.int .i64 (0)), .pv (.int .i64 (0))] [(0, .t 83), (1, .t 84)], (some (77, true)), 130604389193744383⟩,
   ⟨(some 86), .call (.f 18) [.c (.pv (.str [115, 101, 97, 114, 99, 104])), .t 81, .t 85], (some (77, true)), 288230376151711743⟩,
   ⟨(some 87), .pick (.t 77) (.t 86) (.c (.pv (.bool false))), none, 576460752303423487⟩,
   ⟨(some 88), .mv (.t 87), none, 1152921504606846975⟩,
   ⟨(some 89), .mv (.t 5), (some (88, true)), 2305843009213693951⟩,
   ⟨(some 90), .call (.t 89) [.c (.pv (.int .i64 (2))), .c (.pv (.int .i64 (4)))], (some (88, true)), 4611686018427387903⟩,
   ⟨(some 91), .mv (.t 5), (some (88, true)), 2305843009213693951⟩,
   ⟨(some 92), .call (.t 91) [.c (.pv (.int .i64 (0))), .c (.pv (.int .i64 (2)))], (some (88, true)), 18446744073709551615⟩,
   ⟨(some 93), .load true 7 (.t 3), (some (88, true)), 2305843009213693951⟩,
   ⟨(some 94), .bsl 7 3 [.pv (.int .i64 (0)), .pv (.bool false), .pv (.int .i64 (0)), .pv (.str []), .pv (.int .i64 (0)), .pv (.int .i64 (0)), .pv (.int .i64 (0))] [(0, .t 90), (1, .t 92), (2, .t 93)], (some (88, true)), 73786976294838206463⟩,
   ⟨(some 95), .call (.f 20) [.c (.pv (.int .i64 (0))), .c (.pv (.int .i64 (6)))], (some (88, true)), 36893488147419103231⟩,
   ⟨(some 96), .mv (.t 5), (some (88, true)), 2305843009213693951⟩,
   ⟨(some 97), .call (.t 96) [.c (.pv (.int .i64 (0))), .c (.pv (.int .i64 (2)))], (some (88, true)), 479615345916448342015⟩,
   ⟨(some 98), .bsl 7 2 [.pv (.int .i64 (0)), .pv (.bool false), .pv (.int .i64 (0)), .pv (.str []), .pv (.int .i64 (0)), .pv (.int .i64 (0)), .pv (.int .i64 (0))] [(0, .t 95), (1, .t 97)], (some (88, true)), 1069911156275153993727⟩,
   ⟨(some 99), .call (.f 18) [.c (.pv (.str [97, 110, 99, 104, 111, 114, 115, 101, 97, 114, 99, 104])), .t 94, .t 98], (some (88, true)), 2361183241434822606847⟩,
   ⟨(some 100), .pick (.t 88) (.t 99) (.c (.pv (.bool false))), none, 4722366482869645213695⟩,
   ⟨(some 101), .mv (.t 100), none, 9444732965739290427391⟩,
   ⟨(some 102), .call (.f 20) [.c (.pv (.int .i64 (0))), .c (.pv (.int .i64 (6)))], (some (101, true)), 18889465931478580854783⟩,
   ⟨(some 103), .load true 7 (.t 4), (some (101, true)), 18889465931478580854783⟩,
   ⟨(some 104), .bsl 7 2 [.pv (.int .i64 (0)), .pv (.bool false), .pv (.int .i64 (0)), .pv (.str []), .pv (.int .i64 (0)), .pv (.int .i64 (0)), .pv (.int .i64 (0))] [(0, .t 102), (1, .t 103)], (some (101, true)), 75557863725914323419135⟩,
   ⟨(some 105), .call (.f 20) [.c (.pv (.int .i64 (0))), .c (.pv (.int .i64 (6)))], (some (101, true)), 37778931862957161709567⟩,
   ⟨(some 106), .mv (.t 5), (some (101, true)), 18889465931478580854783⟩,
   ⟨(some 107), .call (.t 106) [.c (.pv (.int .i64 (1))), .c (.pv (.int .i64 (1)))], (some (101, true)), 491126114218443102224383⟩,
   ⟨(some 108), .bsl 7 2 [.pv (.int .i64 (0)), .pv (.bool false), .pv (.int .i64 (0)), .pv (.str []), .pv (.int .i64 (0)), .pv (.int .i64 (0)), .pv (.int .i64 (0))] [(0, .t 105), (1, .t 107)], (some (101, true)), 1095589024025757689577471⟩,
   ⟨(some 109), .call (.f 18) [.c (.pv (.str [97, 110, 99, 104, 111, 114, 115, 101, 97, 114, 99, 104])), .t 104, .t 108], (some (101, true)), 2417851639229258349412351⟩,
   ⟨(some 110), .pick (.t 101) (.t 109) (.c (.pv (.bool false))), none, 4835703278458516698824703⟩,
   ⟨(some 111), .mv (.t 110), none, 9671406556917033397649407⟩,
   ⟨(some 112), .mv (.t 5), (some (111, true)), 19342813113834066795298815⟩,
   ⟨(some 113), .call (.t 112) [.c (.pv (.int .i64 (6))), .c (.pv (.int .i64 (0)))], (some (111, true)), 38685626227668133590597631⟩,
   ⟨(some 114), .bsl 7 1 [.pv (.int .i64 (0)), .pv (.bool false), .pv (.int .i64 (0)), .pv (.str []), .pv (.int .i64 (0)), .pv (.int .i64 (0)), .pv (.int .i64 (0))] [(0, .t 113)], (some (111, true)), 77371252455336267181195263⟩,
   ⟨(some 115), .call (.f 20) [.c (.pv (.int .i64 (0))), .c (.pv (.int .i64 (6)))], (some (111, true)), 77371252455336267181195263⟩,
   ⟨(some 116), .call (.f 19) [.c (.pv (.int .i64 (6)))], (some (111, true)), 232113757366008801543585791⟩,
   ⟨(some 117), .call (.f 19) [.c (.pv (.int .i64 (0)))], (some (111, true)), 541598767187353870268366847⟩,
   ⟨(some 118), .bsl 7 3 [.pv (.int .i64 (0)), .pv (.bool false), .pv (.int .i64 (0)), .pv (.str []), .pv (.int .i64 (0)), .pv (.int .i64 (0)), .pv (.int .i64 (0))] [(0, .t 115), (1, .t 116), (2, .t 117)], (some (111, true)), 1160568786830044007717928959⟩,
   ⟨(some 119), .call (.f 18) [.c (.pv (.str [103, 101, 116, 105, 110, 116, 101, 114, 118, 97, 108])), .t 114, .t 118], (some (111, true)), 2475880078570760549798248447⟩,
   ⟨(some 120), .pick (.t 111) (.t 119) (.c (.pv (.bool false))), none, 4951760157141521099596496895⟩,
   ⟨(some 6), .mv (.t 120), none, 9903520314283042199192993791⟩] true)
 (.seq (.reg [⟨(some 122), .call (.f 19) [.c (.pv (.int .i64 (2)))], none, 0⟩,
   ⟨(some 123), .bsl 7 1 [.pv (.int .i64 (0)), .pv (.bool false), .pv (.int .i64 (0)), .pv (.str []), .pv (.int .i64 (0)), .pv (.int .i64 (0)), .pv (.int .i64 (0))] [(0, .t 122)], none, 1⟩,
   ⟨(some 124), .call (.f 23) [.c (.pv (.str [97, 114, 114, 97, 121])), .t 123], none, 3⟩,
   ⟨(some 121), .mv (.t 124), none, 7⟩,
   ⟨(some 125), .extract (.t 121) 0, none, 15⟩,
   ⟨(some 126), .extract (.t 121) 1, none, 15⟩,
   ⟨(some 7), .alloc [.emp 7, .emp 7, .emp 7, .emp 3, .pv (.int .i64 (0)), .pv (.int .i64 (0)), .pv (.int .i64 (0)), .pv (.int .i64 (0)), .pv (.int .i64 (0)), .pv (.int .i64 (0)), .pv (.int .i64 (0)), .emp 7, .pv (.int .i64 (0)), .pv (.int .i64 (0)), .pv (.int .i64 (0)), .pv (.int .i64 (0)), .pv (.int .i64 (0)), .pv (.int .i64 (0)), .pv (.int .i64 (0)), .pv (.int .i64 (0)), .pv (.int .i64 (0)), .pv (.int .i64 (0)), .pv (.int .i64 (0)), .pv (.int .i64 (0)), .pv (.int .i64 (0)), .pv (.int .i64 (0)), .pv (.int .i64 (0)), .pv (.int .i64 (0)), .pv (.int .i64 (0)), .pv (.int .i64 (0)), .pv (.int .i64 (0)), .pv (.int .i64 (0)), .pv (.bool false), .pv (.bool false), .emp 47, .pv (.int .i64 (0)), .pv (.int .i64 (0)), .pv (.int .i64 (0)), .pv (.int .i64 (0)), .pv (.int .i64 (0)), .pv (.int .i64 (0)), .pv (.int .i64 (0)), .pv (.int .i64 (0)), .emp 1, .pv (.int .i64 (0)), .pv (.int .i64 (0)), .emp 2, .pv (.int .i64 (0)), .pv (.bool false), .pv (.int .i64 (0)), .pv (.str []), .pv (.int .i64 (0)), .pv (.int .i64 (0)), .pv (.int .i64 (0)), .pv (.int .i64 (0)), .pv (.int .i64 (0)), .pv (.int .i64 (0)), .pv (.int .i64 (0)), .pv (.int .i64 (0)), .pv (.int .i64 (0)), .pv (.int .i64 (0)), .pv (.int .i64 (0)), .emp 57, .emp 47, .emp 3, .pv (.str []), .pv (.int .i64 (0))], none, 0⟩,
   ⟨none, .store 67 (.t 7) (.t 125), none, 95⟩,
   ⟨(some 8), .mv (.t 126), none, 255⟩] false)
 (.seq (.reg [⟨(some 128), .call (.f 19) [.c (.pv (.int .i64 (1)))], none, 0⟩,
   ⟨(some 129), .call (.f 19) [.c (.pv (.int .i64 (7)))], none, 1⟩,
   ⟨(some 130), .call (.f 19) [.c (.pv (.int .i64 (8)))], none, 3⟩,
   ⟨(some 131), .call (.f 19) [.c (.pv (.int .i64 (2)))], none, 7⟩,
   ⟨(some 132), .bsl 7 4 [.pv (.int .i64 (0)), .pv (.bool false), .pv (.int .i64 (0)), .pv (.str []), .pv (.int .i64 (0)), .pv (.int .i64 (0)), .pv (.int .i64 (0))] [(0, .t 128), (1, .t 129), (2, .t 130), (3, .t 131)], none, 15⟩,
   ⟨(some 133), .call (.f 23) [.c (.pv (.str [112, 97, 99, 107, 101, 100, 97, 114, 114, 97, 121])), .t 132], none, 31⟩,
   ⟨(some 127), .mv (.t 133), none, 63⟩,
   ⟨(some 134), .extract (.t 127) 0, none, 127⟩,
   ⟨(some 135), .extract (.t 127) 1, none, 127⟩,
   ⟨(some 9), .alloc [.emp 7, .emp 7, .emp 7, .emp 3, .pv (.int .i64 (0)), .pv (.int .i64 (0)), .pv (.int .i64 (0)), .pv (.int .i64 (0)), .pv (.int .i64 (0)), .pv (.int .i64 (0)), .pv (.int .i64 (0)), .emp 7, .pv (.int .i64 (0)), .pv (.int .i64 (0)), .pv (.int .i64 (0)), .pv (.int .i64 (0)), .pv (.int .i64 (0)), .pv (.int .i64 (0)), .pv (.int .i64 (0)), .pv (.int .i64 (0)), .pv (.int .i64 (0)), .pv (.int .i64 (0)), .pv (.int .i64 (0)), .pv (.int .i64 (0)), .pv (.int .i64 (0)), .pv (.int .i64 (0)), .pv (.int .i64 (0)), .pv (.int .i64 (0)), .pv (.int .i64 (0)), .pv (.int .i64 (0)), .pv (.int .i64 (0)), .pv (.int .i64 (0)), .pv (.bool false), .pv (.bool false), .emp 47, .pv (.int .i64 (0)), .pv (.int .i64 (0)), .pv (.int .i64 (0)), .pv (.int .i64 (0)), .pv (.int .i64 (0)), .pv (.int .i64 (0)), .pv (.int .i64 (0)), .pv (.int .i64 (0)), .emp 1, .pv (.int .i64 (0)), .pv (.int .i64 (0)), .emp 2, .pv (.int .i64 (0)), .pv (.bool false), .pv (.int .i64 (0)), .pv (.str []), .pv (.int .i64 (0)), .pv (.int .i64 (0)), .pv (.int .i64 (0)), .pv (.int .i64 (0)), .pv (.int .i64 (0)), .pv (.int .i64 (0)), .pv (.int .i64 (0)), .pv (.int .i64 (0)), .pv (.int .i64 (0)), .pv (.int .i64 (0)), .pv (.int .i64 (0)), .emp 57, .emp 47, .emp 3, .pv (.str []), .pv (.int .i64 (0))], none, 0⟩,
   ⟨none, .store 67 (.t 9) (.t 134), none, 767⟩,
   ⟨(some 10), .mv (.t 135), none, 2047⟩] false)
 (.seq (.reg [⟨(some 137), .call (.f 19) [.c (.pv (.int .i64 (1)))], none, 0⟩,
   ⟨(some 138), .call (.f 19) [.c (.pv (.int .i64 (2)))], none, 1⟩,
   ⟨(some 139), .call (.f 22) [.c (.pv (.int .i64 (1))), .c (.pv (.int .i64 (2)))], none, 3⟩,
   ⟨(some 140), .bsl 7 3 [.pv (.int .i64 (0)), .pv (.bool false), .pv (.int .i64 (0)), .pv (.str []), .pv (.int .i64 (0)), .pv (.int .i64 (0)), .pv (.int .i64 (0))] [(0, .t 137), (1, .t 138), (2, .t 139)], none, 7⟩,
   ⟨(some 141), .call (.f 23) [.c (.pv (.str [97, 115, 116, 111, 114, 101])), .t 140], none, 15⟩,
   ⟨(some 136), .mv (.t 141), none, 31⟩,
   ⟨(some 142), .extract (.t 136) 0, none, 63⟩,
   ⟨(some 143), .extract (.t 136) 1, none, 63⟩,
   ⟨(some 11), .alloc [.emp 7, .emp 7, .emp 7, .emp 3, .pv (.int .i64 (0)), .pv (.int .i64 (0)), .pv (.int .i64 (0)), .pv (.int .i64 (0)), .pv (.int .i64 (0)), .pv (.int .i64 (0)), .pv (.int .i64 (0)), .emp 7, .pv (.int .i64 (0)), .pv (.int .i64 (0)), .pv (.int .i64 (0)), .pv (.int .i64 (0)), .pv (.int .i64 (0)), .pv (.int .i64 (0)), .pv (.int .i64 (0)), .pv (.int .i64 (0)), .pv (.int .i64 (0)), .pv (.int .i64 (0)), .pv (.int .i64 (0)), .pv (.int .i64 (0)), .pv (.int .i64 (0)), .pv (.int .i64 (0)), .pv (.int .i64 (0)), .pv (.int .i64 (0)), .pv (.int .i64 (0)), .pv (.int .i64 (0)), .pv (.int .i64 (0)), .pv (.int .i64 (0)), .pv (.bool false), .pv (.bool false), .emp 47, .pv (.int .i64 (0)), .pv (.int .i64 (0)), .pv (.int .i64 (0)), .pv (.int .i64 (0)), .pv (.int .i64 (0)), .pv (.int .i64 (0)), .pv (.int .i64 (0)), .pv (.int .i64 (0)), .emp 1, .pv (.int .i64 (0)), .pv (.int .i64 (0)), .emp 2, .pv (.int .i64 (0)), .pv (.bool false), .pv (.int .i64 (0)), .pv (.str []), .pv (.int .i64 (0)), .pv (.int .i64 (0)), .pv (.int .i64 (0)), .pv (.int .i64 (0)), .pv (.int .i64 (0)), .pv (.int .i64 (0)), .pv (.int .i64 (0)), .pv (.int .i64 (0)), .pv (.int .i64 (0)), .pv (.int .i64 (0)), .pv (.int .i64 (0)), .emp 57, .emp 47, .emp 3, .pv (.str []), .pv (.int .i64 (0))], none, 0⟩,
   ⟨none, .store 67 (.t 11) (.t 142), none, 383⟩,
   ⟨(some 12), .mv (.t 143), none, 1023⟩] false)
 (.seq (.reg [⟨(some 145), .call (.f 20) [.c (.pv (.int .i64 (3))), .c (.pv (.int .i64 (2)))], none, 0⟩,
   ⟨(some 146), .call (.f 20) [.c (.pv (.int .i64 (0))), .c (.pv (.int .i64 (6)))], none, 1⟩,
   ⟨(some 147), .bsl 7 2 [.pv (.int .i64 (0)), .pv (.bool false), .pv (.int .i64 (0)), .pv (.str []), .pv (.int .i64 (0)), .pv (.int .i64 (0)), .pv (.int .i64 (0))] [(0, .t 145), (1, .t 146)], none, 3⟩,
   ⟨(some 148), .call (.f 23) [.c (.pv (.str [99, 111, 112, 121])), .t 147], none, 7⟩,
   ⟨(some 144), .mv (.t 148), none, 15⟩,
   ⟨(some 149), .extract (.t 144) 0, none, 31⟩,
   ⟨(some 150), .extract (.t 144) 1, none, 31⟩,
   ⟨(some 13), .alloc [.emp 7, .emp 7, .emp 7, .emp 3, .pv (.int .i64 (0)), .pv (.int .i64 (0)), .pv (.int .i64 (0)), .pv (.int .i64 (0)), .pv (.int .i64 (0)), .pv (.int .i64 (0)), .pv (.int .i64 (0)), .emp 7, .pv (.int .i64 (0)), .pv (.int .i64 (0)), .pv (.int .i64 (0)), .pv (.int .i64 (0)), .pv (.int .i64 (0)), .pv (.int .i64 (0)), .pv (.int .i64 (0)), .pv (.int .i64 (0)), .pv (.int .i64 (0)), .pv (.int .i64 (0)), .pv (.int .i64 (0)), .pv (.int .i64 (0)), .pv (.int .i64 (0)), .pv (.int .i64 (0)), .pv (.int .i64 (0)), .pv (.int .i64 (0)), .pv (.int .i64 (0)), .pv (.int .i64 (0)), .pv (.int .i64 (0)), .pv (.int .i64 (0)), .pv (.bool false), .pv (.bool false), .emp 47, .pv (.int .i64 (0)), .pv (.int .i64 (0)), .pv (.int .i64 (0)), .pv (.int .i64 (0)), .pv (.int .i64 (0)), .pv (.int .i64 (0)), .pv (.int .i64 (0)), .pv (.int .i64 (0)), .emp 1, .pv (.int .i64 (0)), .pv (.int .i64 (0)), .emp 2, .pv (.int .i64 (0)), .pv (.bool false), .pv (.int .i64 (0)), .pv (.str []), .pv (.int .i64 (0)), .pv (.int .i64 (0)), .pv (.int .i64 (0)), .pv (.int .i64 (0)), .pv (.int .i64 (0)), .pv (.int .i64 (0)), .pv (.int .i64 (0)), .pv (.int .i64 (0)), .pv (.int .i64 (0)), .pv (.int .i64 (0)), .pv (.int .i64 (0)), .emp 57, .emp 47, .emp 3, .pv (.str []), .pv (.int .i64 (0))], none, 0⟩,
   ⟨none, .store 67 (.t 13) (.t 149), none, 191⟩,
   ⟨(some 14), .mv (.t 150), none, 511⟩] false)
 (.seq (.reg [⟨(some 152), .call (.f 19) [.c (.pv (.int .i64 (0)))], none, 0⟩,
   ⟨(some 153), .bsl 7 1 [.pv (.int .i64 (0)), .pv (.bool false), .pv (.int .i64 (0)), .pv (.str []), .pv (.int .i64 (0)), .pv (.int .i64 (0)), .pv (.int .i64 (0))] [(0, .t 152)], none, 1⟩,
   ⟨(some 154), .call (.f 23) [.c (.pv (.str [97, 114, 114, 97, 121])), .t 153], none, 3⟩,
   ⟨(some 151), .mv (.t 154), none, 7⟩,
   ⟨(some 155), .extract (.t 151) 0, none, 15⟩,
   ⟨(some 156), .extract (.t 151) 1, none, 15⟩,
   ⟨(some 15), .alloc [.emp 7, .emp 7, .emp 7, .emp 3, .pv (.int .i64 (0)), .pv (.int .i64 (0)), .pv (.int .i64 (0)), .pv (.int .i64 (0)), .pv (.int .i64 (0)), .pv (.int .i64 (0)), .pv (.int .i64 (0)), .emp 7, .pv (.int .i64 (0)), .pv (.int .i64 (0)), .pv (.int .i64 (0)), .pv (.int .i64 (0)), .pv (.int .i64 (0)), .pv (.int .i64 (0)), .pv (.int .i64 (0)), .pv (.int .i64 (0)), .pv (.int .i64 (0)), .pv (.int .i64 (0)), .pv (.int .i64 (0)), .pv (.int .i64 (0)), .pv (.int .i64 (0)), .pv (.int .i64 (0)), .pv (.int .i64 (0)), .pv (.int .i64 (0)), .pv (.int .i64 (0)), .pv (.int .i64 (0)), .pv (.int .i64 (0)), .pv (.int .i64 (0)), .pv (.bool false), .pv (.bool false), .emp 47, .pv (.int .i64 (0)), .pv (.int .i64 (0)), .pv (.int .i64 (0)), .pv (.int .i64 (0)), .pv (.int .i64 (0)), .pv (.int .i64 (0)), .pv (.int .i64 (0)), .pv (.int .i64 (0)), .emp 1, .pv (.int .i64 (0)), .pv (.int .i64 (0)), .emp 2, .pv (.int .i64 (0)), .pv (.bool false), .pv (.int .i64 (0)), .pv (.str []), .pv (.int .i64 (0)), .pv (.int .i64 (0)), .pv (.int .i64 (0)), .pv (.int .i64 (0)), .pv (.int .i64 (0)), .pv (.int .i64 (0)), .pv (.int .i64 (0)), .pv (.int .i64 (0)), .pv (.int .i64 (0)), .pv (.int .i64 (0)), .pv (.int .i64 (0)), .emp 57, .emp 47, .emp 3, .pv (.str []), .pv (.int .i64 (0))], none, 0⟩,
   ⟨none, .store 67 (.t 15) (.t 155), none, 95⟩,
   ⟨(some 16), .mv (.t 156), none, 255⟩] false)
 (.seq (.seq (.reg [⟨(some 157), .mv (.t 8), none, 0⟩,
   ⟨(some 158), .bin .neq (.t 157) (.c (.pv (.int .i64 (0)))), none, 1⟩,
   ⟨(some 159), .mv (.t 158), none, 3⟩,
   ⟨(some 160), .mv (.t 10), (some (159, false)), 7⟩,
   ⟨(some 161), .bin .neq (.t 160) (.c (.pv (.int .i64 (0)))), (some (159, false)), 15⟩,
   ⟨(some 162), .pick (.t 159) (.c (.pv (.bool true))) (.t 161), none, 31⟩,
   ⟨(some 163), .mv (.t 162), none, 63⟩,
   ⟨(some 164), .mv (.t 12), (some (163, false)), 127⟩,
   ⟨(some 165), .bin .neq (.t 164) (.c (.pv (.int .i64 (0)))), (some (163, false)), 255⟩,
   ⟨(some 166), .pick (.t 163) (.c (.pv (.bool true))) (.t 165), none, 511⟩,
   ⟨(some 167), .mv (.t 166), none, 1023⟩,
   ⟨(some 168), .mv (.t 14), (some (167, false)), 2047⟩,
   ⟨(some 169), .bin .neq (.t 168) (.c (.pv (.int .i64 (0)))), (some (167, false)), 4095⟩,
   ⟨(some 170), .pick (.t 167) (.c (.pv (.bool true))) (.t 169), none, 8191⟩,
   ⟨(some 171), .mv (.t 170), none, 16383⟩,
   ⟨(some 172), .mv (.t 16), (some (171, false)), 32767⟩,
   ⟨(some 173), .bin .neq (.t 172) (.c (.pv (.int .i64 (0)))), (some (171, false)), 65535⟩,
   ⟨(some 174), .pick (.t 171) (.c (.pv (.bool true))) (.t 173), none, 131071⟩,
   ⟨(some 175), .mv (.t 174), none, 262143⟩,
   ⟨(some 176), .faddr (.t 7) 2, (some (175, false)), 524287⟩,
   ⟨(some 177), .load false 1 (.t 176), (some (175, false)), 1048575⟩,
   ⟨(some 178), .slen (.t 177), (some (175, false)), 2097151⟩,
   ⟨(some 179), .bin .neq (.t 178) (.c (.pv (.int .i64 (5)))), (some (175, false)), 4194303⟩,
   ⟨(some 180), .pick (.t 175) (.c (.pv (.bool true))) (.t 179), none, 8388607⟩,
   ⟨(some 181), .mv (.t 180), none, 16777215⟩,
   ⟨(some 182), .faddr (.t 9) 2, (some (181, false)), 33554431⟩,
   ⟨(some 183), .load false 1 (.t 182), (some (181, false)), 67108863⟩,
   ⟨(some 184), .slen (.t 183), (some (181, false)), 134217727⟩,
   ⟨(some 185), .bin .neq (.t 184) (.c (.pv (.int .i64 (5)))), (some (181, false)), 268435455⟩,
   ⟨(some 186), .pick (.t 181) (.c (.pv (.bool true))) (.t 185), none, 536870911⟩,
   ⟨(some 187), .mv (.t 186), none, 1073741823⟩,
   ⟨(some 188), .faddr (.t 11) 2, (some (187, false)), 2147483647⟩,
   ⟨(some 189), .load false 1 (.t 188), (some (187, false)), 4294967295⟩,
   ⟨(some 190), .slen (.t 189), (some (187, false)), 8589934591⟩,
   ⟨(some 191), .bin .neq (.t 190) (.c (.pv (.int .i64 (4)))), (some (187, false)), 17179869183⟩,
   ⟨(some 192), .pick (.t 187) (.c (.pv (.bool true))) (.t 191), none, 34359738367⟩,
   ⟨(some 193), .mv (.t 192), none, 68719476735⟩,
   ⟨(some 194), .faddr (.t 15) 2, (some (193, false)), 137438953471⟩,
   ⟨(some 195), .load false 1 (.t 194), (some (193, false)), 274877906943⟩,
   ⟨(some 196), .slen (.t 195), (some (193, false)), 549755813887⟩,
   ⟨(some 197), .bin .neq (.t 196) (.c (.pv (.int .i64 (5)))), (some (193, false)), 1099511627775⟩,
   ⟨(some 198), .pick (.t 193) (.c (.pv (.bool true))) (.t 197), none, 2199023255551⟩] false)
 (.cond (.t 198)
  (.seq (.reg [⟨(some 0), .mv (.c (.pv (.bool false))), none, 0⟩] false)
  (.ret))
  (.skip)))
 (.seq (.reg [⟨(some 199), .faddr (.t 7) 0, none, 0⟩,
   ⟨(some 200), .load false 1 (.t 199), none, 1⟩,
   ⟨(some 201), .call (.f 22) [.c (.pv (.int .i64 (4))), .c (.pv (.int .i64 (2)))], none, 0⟩,
   ⟨(some 202), .bsl 7 1 [.pv (.int .i64 (0)), .pv (.bool false), .pv (.int .i64 (0)), .pv (.str []), .pv (.int .i64 (0)), .pv (.int .i64 (0)), .pv (.int .i64 (0))] [(0, .t 201)], none, 4⟩,
   ⟨(some 203), .call (.f 12) [.t 200, .t 202], none, 15⟩,
   ⟨(some 204), .mv (.t 203), none, 31⟩,
   ⟨(some 205), .faddr (.t 7) 2, (some (204, true)), 63⟩,
   ⟨(some 206), .load false 1 (.t 205), (some (204, true)), 127⟩,
   ⟨(some 207), .iaddr 7 (.t 206) (.c (.pv (.int .i64 (4)))), (some (204, true)), 255⟩,
   ⟨(some 208), .faddr (.t 207) 2, (some (204, true)), 511⟩,
   ⟨(some 209), .load false 1 (.t 208), (some (204, true)), 1023⟩,
   ⟨(some 210), .mksl 7 64 [.int .i64 (0), .bool false, .int .i64 (0), .str [], .int .i64 (0), .int .i64 (0), .int .i64 (0)] (.c (.pv (.int .i64 (2)))), (some (204, true)), 63⟩,
   ⟨(some 211), .call (.f 12) [.t 209, .t 210], (some (204, true)), 4095⟩,
   ⟨(some 212), .pick (.t 204) (.t 211) (.c (.pv (.bool false))), none, 8191⟩,
   ⟨(some 213), .mv (.t 212), none, 16383⟩,
   ⟨(some 214), .faddr (.t 9) 0, (some (213, true)), 32767⟩,
   ⟨(some 215), .load false 1 (.t 214), (some (213, true)), 65535⟩,
   ⟨(some 216), .call (.f 19) [.c (.pv (.int .i64 (1)))], (some (213, true)), 32767⟩,
   ⟨(some 217), .call (.f 21) [.c (.pv (.int .i64 (4))), .c (.pv (.int .i64 (2)))], (some (213, true)), 163839⟩,
   ⟨(some 218), .bsl 7 2 [.pv (.int .i64 (0)), .pv (.bool false), .pv (.int .i64 (0)), .pv (.str []), .pv (.int .i64 (0)), .pv (.int .i64 (0)), .pv (.int .i64 (0))] [(0, .t 216), (1, .t 217)], (some (213, true)), 425983⟩,
   ⟨(some 219), .call (.f 12) [.t 215, .t 218], (some (213, true)), 1048575⟩,
   ⟨(some 220), .pick (.t 213) (.t 219) (.c (.pv (.bool false))), none, 2097151⟩,
   ⟨(some 221), .mv (.t 220), none, 4194303⟩,
   ⟨(some 222), .faddr (.t 9) 2, (some (221, true)), 8388607⟩,
   ⟨(some 223), .load false 1 (.t 222), (some (221, true)), 16777215⟩,
   ⟨(some 224), .iaddr 7 (.t 223) (.c (.pv (.int .i64 (4)))), (some (221, true)), 33554431⟩,
   ⟨(some 225), .faddr (.t 224) 2, (some (221, true)), 67108863⟩,
   ⟨(some 226), .load false 1 (.t 225), (some (221, true)), 134217727⟩,
   ⟨(some 227), .call (.f 19) [.c (.pv (.int .i64 (7)))], (some (221, true)), 8388607⟩,
   ⟨(some 228), .call (.f 19) [.c (.pv (.int .i64 (8)))], (some (221, true)), 276824063⟩,
   ⟨(some 229), .bsl 7 2 [.pv (.int .i64 (0)), .pv (.bool false), .pv (.int .i64 (0)), .pv (.str []), .pv (.int .i64 (0)), .pv (.int .i64 (0)), .pv (.int .i64 (0))] [(0, .t 227), (1, .t 228)], (some (221, true)), 813694975⟩,
   ⟨(some 230), .call (.f 12) [.t 226, .t 229], (some (221, true)), 2147483647⟩,
   ⟨(some 231), .pick (.t 221) (.t 230) (.c (.pv (.bool false))), none, 4294967295⟩,
   ⟨(some 232), .mv (.t 231), none, 8589934591⟩,
   ⟨(some 233), .faddr (.t 11) 0, (some (232, true)), 17179869183⟩,
   ⟨(some 234), .load false 1 (.t 233), (some (232, true)), 34359738367⟩,
   ⟨(some 235), .call (.f 22) [.c (.pv (.int .i64 (1))), .c (.pv (.int .i64 (2)))], (some (232, true)), 17179869183⟩,
   ⟨(some 236), .bsl 7 1 [.pv (.int .i64 (0)), .pv (.bool false), .pv (.int .i64 (0)), .pv (.str []), .pv (.int .i64 (0)), .pv (.int .i64 (0)), .pv (.int .i64 (0))] [(0, .t 235)], (some (232, true)), 85899345919⟩,
   ⟨(some 237), .call (.f 12) [.t 234, .t 236], (some (232, true)), 274877906943⟩,
   ⟨(some 238), .pick (.t 232) (.t 237) (.c (.pv (.bool false))), none, 549755813887⟩,
   ⟨(some 239), .mv (.t 238), none, 1099511627775⟩,
   ⟨(some 240), .faddr (.t 11) 2, (some (239, true)), 2199023255551⟩,
   ⟨(some 241), .load false 1 (.t 240), (some (239, true)), 4398046511103⟩,
   ⟨(some 242), .iaddr 7 (.t 241) (.c (.pv (.int .i64 (1)))), (some (239, true)), 8796093022207⟩,
   ⟨(some 243), .faddr (.t 242) 2, (some (239, true)), 17592186044415⟩,
   ⟨(some 244), .load false 1 (.t 243), (some (239, true)), 35184372088831⟩,
   ⟨(some 245), .call (.f 19) [.c (.pv (.int .i64 (1)))], (some (239, true)), 2199023255551⟩,
   ⟨(some 246), .call (.f 19) [.c (.pv (.int .i64 (2)))], (some (239, true)), 72567767433215⟩,
   ⟨(some 247), .bsl 7 2 [.pv (.int .i64 (0)), .pv (.bool false), .pv (.int .i64 (0)), .pv (.str []), .pv (.int .i64 (0)), .pv (.int .i64 (0)), .pv (.int .i64 (0))] [(0, .t 245), (1, .t 246)], (some (239, true)), 213305255788543⟩,
   ⟨(some 248), .call (.f 12) [.t 244, .t 247], (some (239, true)), 562949953421311⟩,
   ⟨(some 249), .pick (.t 239) (.t 248) (.c (.pv (.bool false))), none, 1125899906842623⟩,
   ⟨(some 250), .mv (.t 249), none, 2251799813685247⟩,
   ⟨(some 251), .faddr (.t 13) 0, (some (250, true)), 4503599627370495⟩,
   ⟨(some 252), .load false 1 (.t 251), (some (250, true)), 9007199254740991⟩,
   ⟨(some 253), .mv (.t 5), (some (250, true)), 4503599627370495⟩,
   ⟨(some 254), .call (.t 253) [.c (.pv (.int .i64 (0))), .c (.pv (.int .i64 (2)))], (some (250, true)), 22517998136852479⟩,
   ⟨(some 255), .bsl 7 1 [.pv (.int .i64 (0)), .pv (.bool false), .pv (.int .i64 (0)), .pv (.str []), .pv (.int .i64 (0)), .pv (.int .i64 (0)), .pv (.int .i64 (0))] [(0, .t 254)], (some (250, true)), 58546795155816447⟩,
   ⟨(some 256), .call (.f 12) [.t 252, .t 255], (some (250, true)), 144115188075855871⟩,
   ⟨(some 257), .pick (.t 250) (.t 256) (.c (.pv (.bool false))), none, 288230376151711743⟩,
   ⟨(some 258), .mv (.t 257), none, 576460752303423487⟩,
   ⟨(some 259), .load true 67 (.t 13), (some (258, true)), 1152921504606846975⟩,
   ⟨(some 260), .call (.f 20) [.c (.pv (.int .i64 (0))), .c (.pv (.int .i64 (6)))], (some (258, true)), 1152921504606846975⟩,
   ⟨(some 261), .call (.f 24) [.t 259, .t 260, .c (.pv (.str [88, 89, 99, 100, 101, 102]))], (some (258, true)), 4611686018427387903⟩,
   ⟨(some 262), .pick (.t 258) (.t 261) (.c (.pv (.bool false))), none, 9223372036854775807⟩,
   ⟨(some 263), .mv (.t 262), none, 18446744073709551615⟩,
   ⟨(some 264), .faddr (.t 15) 0, (some (263, true)), 36893488147419103231⟩,
   ⟨(some 265), .load false 1 (.t 264), (some (263, true)), 73786976294838206463⟩,
   ⟨(some 266), .call (.f 22) [.c (.pv (.int .i64 (4))), .c (.pv (.int .i64 (0)))], (some (263, true)), 36893488147419103231⟩,
   ⟨(some 267), .bsl 7 1 [.pv (.int .i64 (0)), .pv (.bool false), .pv (.int .i64 (0)), .pv (.str []), .pv (.int .i64 (0)), .pv (.int .i64 (0)), .pv (.int .i64 (0))] [(0, .t 266)], (some (263, true)), 184467440737095516159⟩,
   ⟨(some 268), .call (.f 12) [.t 265, .t 267], (some (263, true)), 590295810358705651711⟩,
   ⟨(some 269), .pick (.t 263) (.t 268) (.c (.pv (.bool false))), none, 1180591620717411303423⟩,
   ⟨(some 17), .mv (.t 269), none, 2361183241434822606847⟩] true)
 (.seq (.reg [⟨(some 270), .call (.f 19) [.c (.pv (.int .i64 (-1)))], none, 0⟩,
   ⟨(some 271), .bsl 7 1 [.pv (.int .i64 (0)), .pv (.bool false), .pv (.int .i64 (0)), .pv (.str []), .pv (.int .i64 (0)), .pv (.int .i64 (0)), .pv (.int .i64 (0))] [(0, .t 270)], none, 1⟩,
   ⟨(some 272), .call (.f 25) [.c (.pv (.str [97, 114, 114, 97, 121])), .c (.pv (.int .i64 (23))), .t 271], none, 3⟩,
   ⟨(some 273), .mv (.t 272), none, 7⟩,
   ⟨(some 274), .call (.f 19) [.c (.pv (.int .i64 (1001)))], (some (273, true)), 15⟩,
   ⟨(some 275), .bsl 7 1 [.pv (.int .i64 (0)), .pv (.bool false), .pv (.int .i64 (0)), .pv (.str []), .pv (.int .i64 (0)), .pv (.int .i64 (0)), .pv (.int .i64 (0))] [(0, .t 274)], (some (273, true)), 31⟩,
   ⟨(some 276), .call (.f 25) [.c (.pv (.str [115, 116, 114, 105, 110, 103])), .c (.pv (.int .i64 (26))), .t 275], (some (273, true)), 63⟩,
   ⟨(some 277), .pick (.t 273) (.t 276) (.c (.pv (.bool false))), none, 127⟩,
   ⟨(some 278), .mv (.t 277), none, 255⟩,
   ⟨(some 279), .call (.f 19) [.c (.pv (.int .i64 (2147483647)))], (some (278, true)), 511⟩,
   ⟨(some 280), .bsl 7 1 [.pv (.int .i64 (0)), .pv (.bool false), .pv (.int .i64 (0)), .pv (.str []), .pv (.int .i64 (0)), .pv (.int .i64 (0)), .pv (.int .i64 (0))] [(0, .t 279)], (some (278, true)), 1023⟩,
   ⟨(some 281), .call (.f 25) [.c (.pv (.str [97, 114, 114, 97, 121])), .c (.pv (.int .i64 (26))), .t 280], (some (278, true)), 2047⟩,
   ⟨(some 282), .pick (.t 278) (.t 281) (.c (.pv (.bool false))), none, 4095⟩,
   ⟨(some 283), .mv (.t 282), none, 8191⟩,
   ⟨(some 284), .call (.f 19) [.c (.pv (.int .i64 (7)))], (some (283, true)), 16383⟩,
   ⟨(some 285), .call (.f 19) [.c (.pv (.int .i64 (2)))], (some (283, true)), 32767⟩,
   ⟨(some 286), .bsl 7 2 [.pv (.int .i64 (0)), .pv (.bool false), .pv (.int .i64 (0)), .pv (.str []), .pv (.int .i64 (0)), .pv (.int .i64 (0)), .pv (.int .i64 (0))] [(0, .t 284), (1, .t 285)], (some (283, true)), 65535⟩,
   ⟨(some 287), .call (.f 25) [.c (.pv (.str [112, 97, 99, 107, 101, 100, 97, 114, 114, 97, 121])), .c (.pv (.int .i64 (20))), .t 286], (some (283, true)), 131071⟩,
   ⟨(some 288), .pick (.t 283) (.t 287) (.c (.pv (.bool false))), none, 262143⟩,
   ⟨(some 289), .mv (.t 288), none, 524287⟩,
   ⟨(some 290), .call (.f 19) [.c (.pv (.int .i64 (-1)))], (some (289, true)), 1048575⟩,
   ⟨(some 291), .bsl 7 1 [.pv (.int .i64 (0)), .pv (.bool false), .pv (.int .i64 (0)), .pv (.str []), .pv (.int .i64 (0)), .pv (.int .i64 (0)), .pv (.int .i64 (0))] [(0, .t 290)], (some (289, true)), 2097151⟩,
   ⟨(some 292), .call (.f 25) [.c (.pv (.str [112, 97, 99, 107, 101, 100, 97, 114, 114, 97, 121])), .c (.pv (.int .i64 (23))), .t 291], (some (289, true)), 4194303⟩,
   ⟨(some 293), .pick (.t 289) (.t 292) (.c (.pv (.bool false))), none, 8388607⟩,
   ⟨(some 294), .mv (.t 293), none, 16777215⟩,
   ⟨(some 295), .call (.f 20) [.c (.pv (.int .i64 (0))), .c (.pv (.int .i64 (6)))], (some (294, true)), 33554431⟩,
   ⟨(some 296), .call (.f 19) [.c (.pv (.int .i64 (1)))], (some (294, true)), 67108863⟩,
   ⟨(some 297), .call (.f 19) [.c (.pv (.int .i64 (256)))], (some (294, true)), 134217727⟩,
   ⟨(some 298), .bsl 7 3 [.pv (.int .i64 (0)), .pv (.bool false), .pv (.int .i64 (0)), .pv (.str []), .pv (.int .i64 (0)), .pv (.int .i64 (0)), .pv (.int .i64 (0))] [(0, .t 295), (1, .t 296), (2, .t 297)], (some (294, true)), 268435455⟩,
   ⟨(some 299), .call (.f 25) [.c (.pv (.str [112, 117, 116])), .c (.pv (.int .i64 (23))), .t 298], (some (294, true)), 536870911⟩,
   ⟨(some 300), .pick (.t 294) (.t 299) (.c (.pv (.bool false))), none, 1073741823⟩,
   ⟨(some 301), .mv (.t 300), none, 2147483647⟩,
   ⟨(some 302), .call (.f 20) [.c (.pv (.int .i64 (0))), .c (.pv (.int .i64 (6)))], (some (301, true)), 4294967295⟩,
   ⟨(some 303), .call (.f 19) [.c (.pv (.int .i64 (1)))], (some (301, true)), 8589934591⟩,
   ⟨(some 304), .load true 7 (.t 1), (some (301, true)), 4294967295⟩,
   ⟨(some 305), .bsl 7 3 [.pv (.int .i64 (0)), .pv (.bool false), .pv (.int .i64 (0)), .pv (.str []), .pv (.int .i64 (0)), .pv (.int .i64 (0)), .pv (.int .i64 (0))] [(0, .t 302), (1, .t 303), (2, .t 304)], (some (301, true)), 34359738367⟩,
   ⟨(some 306), .call (.f 25) [.c (.pv (.str [112, 117, 116])), .c (.pv (.int .i64 (22))), .t 305], (some (301, true)), 68719476735⟩,
   ⟨(some 307), .pick (.t 301) (.t 306) (.c (.pv (.bool false))), none, 137438953471⟩,
   ⟨(some 308), .mv (.t 307), none, 274877906943⟩,
   ⟨(some 309), .call (.f 21) [.c (.pv (.int .i64 (1))), .c (.pv (.int .i64 (2)))], (some (308, true)), 549755813887⟩,
   ⟨(some 310), .load true 7 (.t 1), (some (308, true)), 549755813887⟩,
   ⟨(some 311), .call (.f 19) [.c (.pv (.int .i64 (1)))], (some (308, true)), 1099511627775⟩,
   ⟨(some 312), .bsl 7 3 [.pv (.int .i64 (0)), .pv (.bool false), .pv (.int .i64 (0)), .pv (.str []), .pv (.int .i64 (0)), .pv (.int .i64 (0)), .pv (.int .i64 (0))] [(0, .t 309), (1, .t 310), (2, .t 311)], (some (308, true)), 4398046511103⟩,
   ⟨(some 313), .call (.f 25) [.c (.pv (.str [112, 117, 116])), .c (.pv (.int .i64 (22))), .t 312], (some (308, true)), 8796093022207⟩,
   ⟨(some 314), .pick (.t 308) (.t 313) (.c (.pv (.bool false))), none, 17592186044415⟩,
   ⟨(some 315), .mv (.t 314), none, 35184372088831⟩,
   ⟨(some 316), .call (.f 21) [.c (.pv (.int .i64 (1))), .c (.pv (.int .i64 (2)))], (some (315, true)), 70368744177663⟩,
   ⟨(some 317), .call (.f 19) [.c (.pv (.int .i64 (9)))], (some (315, true)), 140737488355327⟩,
   ⟨(some 318), .call (.f 19) [.c (.pv (.int .i64 (1)))], (some (315, true)), 281474976710655⟩,
   ⟨(some 319), .bsl 7 3 [.pv (.int .i64 (0)), .pv (.bool false), .pv (.int .i64 (0)), .pv (.str []), .pv (.int .i64 (0)), .pv (.int .i64 (0)), .pv (.int .i64 (0))] [(0, .t 316), (1, .t 317), (2, .t 318)], (some (315, true)), 562949953421311⟩,
   ⟨(some 320), .call (.f 25) [.c (.pv (.str [112, 117, 116])), .c (.pv (.int .i64 (31))), .t 319], (some (315, true)), 1125899906842623⟩,
   ⟨(some 321), .pick (.t 315) (.t 320) (.c (.pv (.bool false))), none, 2251799813685247⟩,
   ⟨(some 322), .mv (.t 321), none, 4503599627370495⟩,
   ⟨(some 323), .call (.f 22) [.c (.pv (.int .i64 (1))), .c (.pv (.int .i64 (2)))], (some (322, true)), 9007199254740991⟩,
   ⟨(some 324), .call (.f 19) [.c (.pv (.int .i64 (-1)))], (some (322, true)), 18014398509481983⟩,
   ⟨(some 325), .call (.f 19) [.c (.pv (.int .i64 (1)))], (some (322, true)), 36028797018963967⟩,
   ⟨(some 326), .bsl 7 3 [.pv (.int .i64 (0)), .pv (.bool false), .pv (.int .i64 (0)), .pv (.str []), .pv (.int .i64 (0)), .pv (.int .i64 (0)), .pv (.int .i64 (0))] [(0, .t 323), (1, .t 324), (2, .t 325)], (some (322, true)), 72057594037927935⟩,
   ⟨(some 327), .call (.f 25) [.c (.pv (.str [112, 117, 116])), .c (.pv (.int .i64 (23))), .t 326], (some (322, true)), 144115188075855871⟩,
   ⟨(some 328), .pick (.t 322) (.t 327) (.c (.pv (.bool false))), none, 288230376151711743⟩,
   ⟨(some 329), .mv (.t 328), none, 576460752303423487⟩,
   ⟨(some 330), .call (.f 22) [.c (.pv (.int .i64 (2))), .c (.pv (.int .i64 (3)))], (some (329, true)), 1152921504606846975⟩,
   ⟨(some 331), .call (.f 19) [.c (.pv (.int .i64 (2)))], (some (329, true)), 2305843009213693951⟩,
   ⟨(some 332), .call (.f 22) [.c (.pv (.int .i64 (1))), .c (.pv (.int .i64 (2)))], (some (329, true)), 4611686018427387903⟩,
   ⟨(some 333), .bsl 7 3 [.pv (.int .i64 (0)), .pv (.bool false), .pv (.int .i64 (0)), .pv (.str []), .pv (.int .i64 (0)), .pv (.int .i64 (0)), .pv (.int .i64 (0))] [(0, .t 330), (1, .t 331), (2, .t 332)], (some (329, true)), 9223372036854775807⟩,
   ⟨(some 334), .call (.f 25) [.c (.pv (.str [112, 117, 116, 105, 110, 116, 101, 114, 118, 97, 108])), .c (.pv (.int .i64 (23))), .t 333], (some (329, true)), 18446744073709551615⟩,
   ⟨(some 335), .pick (.t 329) (.t 334) (.c (.pv (.bool false))), none, 36893488147419103231⟩,
   ⟨(some 336), .mv (.t 335), none, 73786976294838206463⟩,
   ⟨(some 337), .call (.f 22) [.c (.pv (.int .i64 (2))), .c (.pv (.int .i64 (3)))], (some (336, true)), 147573952589676412927⟩,
   ⟨(some 338), .call (.f 19) [.c (.pv (.int .i64 (0)))], (some (336, true)), 295147905179352825855⟩,
   ⟨(some 339), .call (.f 20) [.c (.pv (.int .i64 (0))), .c (.pv (.int .i64 (1)))], (some (336, true)), 590295810358705651711⟩,
   ⟨(some 340), .bsl 7 3 [.pv (.int .i64 (0)), .pv (.bool false), .pv (.int .i64 (0)), .pv (.str []), .pv (.int .i64 (0)), .pv (.int .i64 (0)), .pv (.int .i64 (0))] [(0, .t 337), (1, .t 338), (2, .t 339)], (some (336, true)), 1180591620717411303423⟩,
   ⟨(some 341), .call (.f 25) [.c (.pv (.str [112, 117, 116, 105, 110, 116, 101, 114, 118, 97, 108])), .c (.pv (.int .i64 (22))), .t 340], (some (336, true)), 2361183241434822606847⟩,
   ⟨(some 342), .pick (.t 336) (.t 341) (.c (.pv (.bool false))), none, 4722366482869645213695⟩,
   ⟨(some 343), .mv (.t 342), none, 9444732965739290427391⟩,
   ⟨(some 344), .call (.f 21) [.c (.pv (.int .i64 (2))), .c (.pv (.int .i64 (3)))], (some (343, true)), 18889465931478580854783⟩,
   ⟨(some 345), .call (.f 19) [.c (.pv (.int .i64 (9)))], (some (343, true)), 37778931862957161709567⟩,
   ⟨(some 346), .call (.f 22) [.c (.pv (.int .i64 (1))), .c (.pv (.int .i64 (2)))], (some (343, true)), 75557863725914323419135⟩,
   ⟨(some 347), .bsl 7 3 [.pv (.int .i64 (0)), .pv (.bool false), .pv (.int .i64 (0)), .pv (.str []), .pv (.int .i64 (0)), .pv (.int .i64 (0)), .pv (.int .i64 (0))] [(0, .t 344), (1, .t 345), (2, .t 346)], (some (343, true)), 151115727451828646838271⟩,
   ⟨(some 348), .call (.f 25) [.c (.pv (.str [112, 117, 116, 105, 110, 116, 101, 114, 118, 97, 108])), .c (.pv (.int .i64 (31))), .t 347], (some (343, true)), 302231454903657293676543⟩,
   ⟨(some 349), .pick (.t 343) (.t 348) (.c (.pv (.bool false))), none, 604462909807314587353087⟩,
   ⟨(some 350), .mv (.t 349), none, 1208925819614629174706175⟩,
   ⟨(some 351), .call (.f 19) [.c (.pv (.int .i64 (1)))], (some (350, true)), 2417851639229258349412351⟩,
   ⟨(some 352), .call (.f 22) [.c (.pv (.int .i64 (1))), .c (.pv (.int .i64 (2)))], (some (350, true)), 4835703278458516698824703⟩,
   ⟨(some 353), .bsl 7 2 [.pv (.int .i64 (0)), .pv (.bool false), .pv (.int .i64 (0)), .pv (.str []), .pv (.int .i64 (0)), .pv (.int .i64 (0)), .pv (.int .i64 (0))] [(0, .t 351), (1, .t 352)], (some (350, true)), 9671406556917033397649407⟩,
   ⟨(some 354), .call (.f 25) [.c (.pv (.str [97, 115, 116, 111, 114, 101])), .c (.pv (.int .i64 (20))), .t 353], (some (350, true)), 19342813113834066795298815⟩,
   ⟨(some 355), .pick (.t 350) (.t 354) (.c (.pv (.bool false))), none, 38685626227668133590597631⟩,
   ⟨(some 356), .mv (.t 355), none, 77371252455336267181195263⟩,
   ⟨(some 357), .call (.f 21) [.c (.pv (.int .i64 (1))), .c (.pv (.int .i64 (2)))], (some (356, true)), 154742504910672534362390527⟩,
   ⟨(some 358), .bsl 7 1 [.pv (.int .i64 (0)), .pv (.bool false), .pv (.int .i64 (0)), .pv (.str []), .pv (.int .i64 (0)), .pv (.int .i64 (0)), .pv (.int .i64 (0))] [(0, .t 357)], (some (356, true)), 309485009821345068724781055⟩,
   ⟨(some 359), .call (.f 25) [.c (.pv (.str [97, 115, 116, 111, 114, 101])), .c (.pv (.int .i64 (31))), .t 358], (some (356, true)), 618970019642690137449562111⟩,
   ⟨(some 360), .pick (.t 356) (.t 359) (.c (.pv (.bool false))), none, 1237940039285380274899124223⟩,
   ⟨(some 361), .mv (.t 360), none, 2475880078570760549798248447⟩,
   ⟨(some 362), .call (.f 20) [.c (.pv (.int .i64 (0))), .c (.pv (.int .i64 (6)))], (some (361, true)), 4951760157141521099596496895⟩,
   ⟨(some 363), .call (.f 20) [.c (.pv (.int .i64 (3))), .c (.pv (.int .i64 (2)))], (some (361, true)), 9903520314283042199192993791⟩,
   ⟨(some 364), .bsl 7 2 [.pv (.int .i64 (0)), .pv (.bool false), .pv (.int .i64 (0)), .pv (.str []), .pv (.int .i64 (0)), .pv (.int .i64 (0)), .pv (.int .i64 (0))] [(0, .t 362), (1, .t 363)], (some (361, true)), 19807040628566084398385987583⟩,
   ⟨(some 365), .call (.f 25) [.c (.pv (.str [99, 111, 112, 121])), .c (.pv (.int .i64 (23))), .t 364], (some (361, true)), 39614081257132168796771975167⟩,
   ⟨(some 366), .pick (.t 361) (.t 365) (.c (.pv (.bool false))), none, 79228162514264337593543950335⟩,
   ⟨(some 367), .mv (.t 366), none, 158456325028528675187087900671⟩,
   ⟨(some 368), .call (.f 20) [.c (.pv (.int .i64 (0))), .c (.pv (.int .i64 (6)))], (some (367, true)), 316912650057057350374175801343⟩,
   ⟨(some 369), .call (.f 22) [.c (.pv (.int .i64 (1))), .c (.pv (.int .i64 (2)))], (some (367, true)), 633825300114114700748351602687⟩,
   ⟨(some 370), .bsl 7 2 [.pv (.int .i64 (0)), .pv (.bool false), .pv (.int .i64 (0)), .pv (.str []), .pv (.int .i64 (0)), .pv (.int .i64 (0)), .pv (.int .i64 (0))] [(0, .t 368), (1, .t 369)], (some (367, true)), 1267650600228229401496703205375⟩,
   ⟨(some 371), .call (.f 25) [.c (.pv (.str [99, 111, 112, 121])), .c (.pv (.int .i64 (22))), .t 370], (some (367, true)), 2535301200456458802993406410751⟩,
   ⟨(some 372), .pick (.t 367) (.t 371) (.c (.pv (.bool false))), none, 5070602400912917605986812821503⟩,
   ⟨(some 373), .mv (.t 372), none, 10141204801825835211973625643007⟩,
   ⟨(some 374), .call (.f 22) [.c (.pv (.int .i64 (2))), .c (.pv (.int .i64 (3)))], (some (373, true)), 20282409603651670423947251286015⟩,
   ⟨(some 375), .call (.f 21) [.c (.pv (.int .i64 (1))), .c (.pv (.int .i64 (2)))], (some (373, true)), 40564819207303340847894502572031⟩,
   ⟨(some 376), .bsl 7 2 [.pv (.int .i64 (0)), .pv (.bool false), .pv (.int .i64 (0)), .pv (.str []), .pv (.int .i64 (0)), .pv (.int .i64 (0)), .pv (.int .i64 (0))] [(0, .t 374), (1, .t 375)], (some (373, true)), 81129638414606681695789005144063⟩,
   ⟨(some 377), .call (.f 25) [.c (.pv (.str [99, 111, 112, 121])), .c (.pv (.int .i64 (31))), .t 376], (some (373, true)), 162259276829213363391578010288127⟩,
   ⟨(some 378), .pick (.t 373) (.t 377) (.c (.pv (.bool false))), none, 324518553658426726783156020576255⟩,
   ⟨(some 379), .mv (.t 378), none, 649037107316853453566312041152511⟩,
   ⟨(some 380), .call (.f 19) [.c (.pv (.int .i64 (1)))], (some (379, true)), 1298074214633706907132624082305023⟩,
   ⟨(some 381), .call (.f 19) [.c (.pv (.int .i64 (2)))], (some (379, true)), 2596148429267413814265248164610047⟩,
   ⟨(some 382), .bsl 7 2 [.pv (.int .i64 (0)), .pv (.bool false), .pv (.int .i64 (0)), .pv (.str []), .pv (.int .i64 (0)), .pv (.int .i64 (0)), .pv (.int .i64 (0))] [(0, .t 380), (1, .t 381)], (some (379, true)), 5192296858534827628530496329220095⟩,
   ⟨(some 383), .call (.f 25) [.c (.pv (.str [93])), .c (.pv (.int .i64 (32))), .t 382], (some (379, true)), 10384593717069655257060992658440191⟩,
   ⟨(some 384), .pick (.t 379) (.t 383) (.c (.pv (.bool false))), none, 20769187434139310514121985316880383⟩,
   ⟨(some 385), .mv (.t 384), none, 41538374868278621028243970633760767⟩,
   ⟨(some 386), .call (.f 20) [.c (.pv (.int .i64 (0))), .c (.pv (.int .i64 (6)))], (some (385, true)), 83076749736557242056487941267521535⟩,
   ⟨(some 387), .load true 7 (.t 2), (some (385, true)), 83076749736557242056487941267521535⟩,
   ⟨(some 388), .bsl 7 2 [.pv (.int .i64 (0)), .pv (.bool false), .pv (.int .i64 (0)), .pv (.str []), .pv (.int .i64 (0)), .pv (.int .i64 (0)), .pv (.int .i64 (0))] [(0, .t 386), (1, .t 387)], (some (385, true)), 332306998946228968225951765070086143⟩,
   ⟨(some 389), .call (.f 25) [.c (.pv (.str [115, 101, 97, 114, 99, 104])), .c (.pv (.int .i64 (22))), .t 388], (some (385, true)), 664613997892457936451903530140172287⟩,
   ⟨(some 390), .pick (.t 385) (.t 389) (.c (.pv (.bool false))), none, 1329227995784915872903807060280344575⟩,
   ⟨(some 391), .mv (.t 390), none, 2658455991569831745807614120560689151⟩,
   ⟨(some 392), .call (.f 19) [.c (.pv (.int .i64 (1)))], (some (391, true)), 5316911983139663491615228241121378303⟩,
   ⟨(some 393), .bsl 7 1 [.pv (.int .i64 (0)), .pv (.bool false), .pv (.int .i64 (0)), .pv (.str []), .pv (.int .i64 (0)), .pv (.int .i64 (0)), .pv (.int .i64 (0))] [(0, .t 392)], (some (391, true)), 10633823966279326983230456482242756607⟩,
   ⟨(some 394), .call (.f 25) [.c (.pv (.str [108, 101, 110, 103, 116, 104])), .c (.pv (.int .i64 (22))), .t 393], (some (391, true)), 21267647932558653966460912964485513215⟩,
   ⟨(some 395), .pick (.t 391) (.t 394) (.c (.pv (.bool false))), none, 42535295865117307932921825928971026431⟩,
   ⟨(some 396), .mv (.t 395), none, 85070591730234615865843651857942052863⟩,
   ⟨(some 397), .call (.f 25) [.c (.pv (.str [108, 101, 110, 103, 116, 104])), .c (.pv (.int .i64 (20))), .c (.emp 7)], (some (396, true)), 170141183460469231731687303715884105727⟩,
   ⟨(some 398), .pick (.t 396) (.t 397) (.c (.pv (.bool false))), none, 340282366920938463463374607431768211455⟩,
   ⟨(some 399), .mv (.t 398), none, 680564733841876926926749214863536422911⟩,
   ⟨(some 400), .call (.f 20) [.c (.pv (.int .i64 (0))), .c (.pv (.int .i64 (6)))], (some (399, true)), 1361129467683753853853498429727072845823⟩,
   ⟨(some 401), .call (.f 19) [.c (.pv (.int .i64 (1)))], (some (399, true)), 2722258935367507707706996859454145691647⟩,
   ⟨(some 402), .call (.f 19) [.c (.pv (.int .i64 (-1)))], (some (399, true)), 5444517870735015415413993718908291383295⟩,
   ⟨(some 403), .bsl 7 3 [.pv (.int .i64 (0)), .pv (.bool false), .pv (.int .i64 (0)), .pv (.str []), .pv (.int .i64 (0)), .pv (.int .i64 (0)), .pv (.int .i64 (0))] [(0, .t 400), (1, .t 401), (2, .t 402)], (some (399, true)), 10889035741470030830827987437816582766591⟩,
   ⟨(some 404), .call (.f 25) [.c (.pv (.str [103, 101, 116, 105, 110, 116, 101, 114, 118, 97, 108])), .c (.pv (.int .i64 (23))), .t 403], (some (399, true)), 21778071482940061661655974875633165533183⟩,
   ⟨(some 405), .pick (.t 399) (.t 404) (.c (.pv (.bool false))), none, 43556142965880123323311949751266331066367⟩,
   ⟨(some 406), .mv (.t 405), none, 87112285931760246646623899502532662132735⟩,
   ⟨(some 407), .call (.f 20) [.c (.pv (.int .i64 (0))), .c (.pv (.int .i64 (6)))], (some (406, true)), 174224571863520493293247799005065324265471⟩,
   ⟨(some 408), .call (.f 19) [.c (.pv (.int .i64 (1)))], (some (406, true)), 348449143727040986586495598010130648530943⟩,
   ⟨(some 409), .load true 7 (.t 1), (some (406, true)), 174224571863520493293247799005065324265471⟩,
   ⟨(some 410), .bsl 7 3 [.pv (.int .i64 (0)), .pv (.bool false), .pv (.int .i64 (0)), .pv (.str []), .pv (.int .i64 (0)), .pv (.int .i64 (0)), .pv (.int .i64 (0))] [(0, .t 407), (1, .t 408), (2, .t 409)], (some (406, true)), 1393796574908163946345982392040522594123775⟩,
   ⟨(some 411), .call (.f 25) [.c (.pv (.str [103, 101, 116, 105, 110, 116, 101, 114, 118, 97, 108])), .c (.pv (.int .i64 (22))), .t 410], (some (406, true)), 2787593149816327892691964784081045188247551⟩,
   ⟨(some 412), .pick (.t 406) (.t 411) (.c (.pv (.bool false))), none, 5575186299632655785383929568162090376495103⟩,
   ⟨(some 413), .mv (.t 412), none, 11150372599265311570767859136324180752990207⟩,
   ⟨(some 414), .call (.f 19) [.c (.pv (.int .i64 (1)))], (some (413, true)), 22300745198530623141535718272648361505980415⟩,
   ⟨(some 415), .bsl 7 1 [.pv (.int .i64 (0)), .pv (.bool false), .pv (.int .i64 (0)), .pv (.str []), .pv (.int .i64 (0)), .pv (.int .i64 (0)), .pv (.int .i64 (0))] [(0, .t 414)], (some (413, true)), 44601490397061246283071436545296723011960831⟩,
   ⟨(some 416), .call (.f 25) [.c (.pv (.str [103, 101, 116])), .c (.pv (.int .i64 (20))), .t 415], (some (413, true)), 89202980794122492566142873090593446023921663⟩,
   ⟨(some 417), .pick (.t 413) (.t 416) (.c (.pv (.bool false))), none, 178405961588244985132285746181186892047843327⟩,
   ⟨(some 418), .mv (.t 417), none, 356811923176489970264571492362373784095686655⟩,
   ⟨(some 419), .call (.f 19) [.c (.pv (.int .i64 (1)))], (some (418, true)), 713623846352979940529142984724747568191373311⟩,
   ⟨(some 420), .bsl 7 1 [.pv (.int .i64 (0)), .pv (.bool false), .pv (.int .i64 (0)), .pv (.str []), .pv (.int .i64 (0)), .pv (.int .i64 (0)), .pv (.int .i64 (0))] [(0, .t 419)], (some (418, true)), 1427247692705959881058285969449495136382746623⟩,
   ⟨(some 421), .call (.f 25) [.c (.pv (.str [115, 116, 111, 114, 101])), .c (.pv (.int .i64 (24))), .t 420], (some (418, true)), 2854495385411919762116571938898990272765493247⟩,
   ⟨(some 422), .pick (.t 418) (.t 421) (.c (.pv (.bool false))), none, 5708990770823839524233143877797980545530986495⟩,
   ⟨(some 18), .mv (.t 422), none, 11417981541647679048466287755595961091061972991⟩] true)
 (.seq (.reg [⟨(some 423), .call (.f 26) [], none, 0⟩,
   ⟨(some 424), .mksl 7 64 [.int .i64 (0), .bool false, .int .i64 (0), .str [], .int .i64 (0), .int .i64 (0), .int .i64 (0)] (.c (.pv (.int .i64 (100)))), none, 0⟩,
   ⟨(some 425), .build [.emp 7, .emp 7, .emp 7, .emp 3, .pv (.int .i64 (0)), .pv (.int .i64 (0)), .pv (.int .i64 (0)), .pv (.int .i64 (0)), .pv (.int .i64 (0)), .pv (.int .i64 (0)), .pv (.int .i64 (0)), .emp 7, .pv (.int .i64 (0)), .pv (.int .i64 (0)), .pv (.int .i64 (0)), .pv (.int .i64 (0)), .pv (.int .i64 (0)), .pv (.int .i64 (0)), .pv (.int .i64 (0)), .pv (.int .i64 (0)), .pv (.int .i64 (0)), .pv (.int .i64 (0)), .pv (.int .i64 (0)), .pv (.int .i64 (0)), .pv (.int .i64 (0)), .pv (.int .i64 (0)), .pv (.int .i64 (0)), .pv (.int .i64 (0)), .pv (.int .i64 (0)), .pv (.int .i64 (0)), .pv (.int .i64 (0)), .pv (.int .i64 (0)), .pv (.bool false), .pv (.bool false), .emp 47, .pv (.int .i64 (0)), .pv (.int .i64 (0)), .pv (.int .i64 (0)), .pv (.int .i64 (0)), .pv (.int .i64 (0)), .pv (.int .i64 (0)), .pv (.int .i64 (0)), .pv (.int .i64 (0)), .emp 1, .pv (.int .i64 (0)), .pv (.int .i64 (0)), .emp 2, .pv (.int .i64 (0)), .pv (.bool false), .pv (.int .i64 (0)), .pv (.str []), .pv (.int .i64 (0)), .pv (.int .i64 (0)), .pv (.int .i64 (0)), .pv (.int .i64 (0)), .pv (.int .i64 (0)), .pv (.int .i64 (0)), .pv (.int .i64 (0)), .pv (.int .i64 (0)), .pv (.int .i64 (0)), .pv (.int .i64 (0)), .pv (.int .i64 (0)), .emp 57, .emp 47, .emp 3, .pv (.str []), .pv (.int .i64 (0))] [(2, 1, .t 423), (0, 1, .t 424)], none, 3⟩,
   ⟨(some 19), .alloc [.emp 7, .emp 7, .emp 7, .emp 3, .pv (.int .i64 (0)), .pv (.int .i64 (0)), .pv (.int .i64 (0)), .pv (.int .i64 (0)), .pv (.int .i64 (0)), .pv (.int .i64 (0)), .pv (.int .i64 (0)), .emp 7, .pv (.int .i64 (0)), .pv (.int .i64 (0)), .pv (.int .i64 (0)), .pv (.int .i64 (0)), .pv (.int .i64 (0)), .pv (.int .i64 (0)), .pv (.int .i64 (0)), .pv (.int .i64 (0)), .pv (.int .i64 (0)), .pv (.int .i64 (0)), .pv (.int .i64 (0)), .pv (.int .i64 (0)), .pv (.int .i64 (0)), .pv (.int .i64 (0)), .pv (.int .i64 (0)), .pv (.int .i64 (0)), .pv (.int .i64 (0)), .pv (.int .i64 (0)), .pv (.int .i64 (0)), .pv (.int .i64 (0)), .pv (.bool false), .pv (.bool false), .emp 47, .pv (.int .i64 (0)), .pv (.int .i64 (0)), .pv (.int .i64 (0)), .pv (.int .i64 (0)), .pv (.int .i64 (0)), .pv (.int .i64 (0)), .pv (.int .i64 (0)), .pv (.int .i64 (0)), .emp 1, .pv (.int .i64 (0)), .pv (.int .i64 (0)), .emp 2, .pv (.int .i64 (0)), .pv (.bool false), .pv (.int .i64 (0)), .pv (.str []), .pv (.int .i64 (0)), .pv (.int .i64 (0)), .pv (.int .i64 (0)), .pv (.int .i64 (0)), .pv (.int .i64 (0)), .pv (.int .i64 (0)), .pv (.int .i64 (0)), .pv (.int .i64 (0)), .pv (.int .i64 (0)), .pv (.int .i64 (0)), .pv (.int .i64 (0)), .emp 57, .emp 47, .emp 3, .pv (.str []), .pv (.int .i64 (0))], none, 0⟩,
   ⟨none, .store 67 (.t 19) (.t 425), none, 15⟩] true)
 (.seq (.reg [⟨(some 426), .faddr (.t 19) 0, none, 0⟩,
   ⟨(some 427), .load false 1 (.t 426), none, 1⟩,
   ⟨(some 428), .faddr (.t 19) 0, none, 0⟩,
   ⟨(some 429), .load false 1 (.t 428), none, 4⟩,
   ⟨(some 430), .call (.f 20) [.c (.pv (.int .i64 (0))), .c (.pv (.int .i64 (6)))], none, 0⟩,
   ⟨(some 431), .call (.f 20) [.c (.pv (.int .i64 (0))), .c (.pv (.int .i64 (1)))], none, 16⟩,
   ⟨(some 432), .iaddr 7 (.t 427) (.c (.pv (.int .i64 (98)))), none, 51⟩,
   ⟨none, .store 7 (.t 432) (.t 430), none, 115⟩,
   ⟨(some 433), .iaddr 7 (.t 429) (.c (.pv (.int .i64 (99)))), none, 255⟩,
   ⟨none, .store 7 (.t 433) (.t 431), none, 511⟩] true)
 (.seq (.reg [⟨(some 435), .load true 67 (.t 19), none, 0⟩,
   ⟨(some 436), .call (.f 27) [.t 435, .c (.pv (.str [115, 101, 97, 114, 99, 104]))], none, 1⟩,
   ⟨(some 434), .mv (.t 436), none, 3⟩,
   ⟨(some 437), .extract (.t 434) 0, none, 7⟩,
   ⟨(some 438), .extract (.t 434) 1, none, 7⟩,
   ⟨(some 20), .alloc [.emp 7, .emp 7, .emp 7, .emp 3, .pv (.int .i64 (0)), .pv (.int .i64 (0)), .pv (.int .i64 (0)), .pv (.int .i64 (0)), .pv (.int .i64 (0)), .pv (.int .i64 (0)), .pv (.int .i64 (0)), .emp 7, .pv (.int .i64 (0)), .pv (.int .i64 (0)), .pv (.int .i64 (0)), .pv (.int .i64 (0)), .pv (.int .i64 (0)), .pv (.int .i64 (0)), .pv (.int .i64 (0)), .pv (.int .i64 (0)), .pv (.int .i64 (0)), .pv (.int .i64 (0)), .pv (.int .i64 (0)), .pv (.int .i64 (0)), .pv (.int .i64 (0)), .pv (.int .i64 (0)), .pv (.int .i64 (0)), .pv (.int .i64 (0)), .pv (.int .i64 (0)), .pv (.int .i64 (0)), .pv (.int .i64 (0)), .pv (.int .i64 (0)), .pv (.bool false), .pv (.bool false), .emp 47, .pv (.int .i64 (0)), .pv (.int .i64 (0)), .pv (.int .i64 (0)), .pv (.int .i64 (0)), .pv (.int .i64 (0)), .pv (.int .i64 (0)), .pv (.int .i64 (0)), .pv (.int .i64 (0)), .emp 1, .pv (.int .i64 (0)), .pv (.int .i64 (0)), .emp 2, .pv (.int .i64 (0)), .pv (.bool false), .pv (.int .i64 (0)), .pv (.str []), .pv (.int .i64 (0)), .pv (.int .i64 (0)), .pv (.int .i64 (0)), .pv (.int .i64 (0)), .pv (.int .i64 (0)), .pv (.int .i64 (0)), .pv (.int .i64 (0)), .pv (.int .i64 (0)), .pv (.int .i64 (0)), .pv (.int .i64 (0)), .pv (.int .i64 (0)), .emp 57, .emp 47, .emp 3, .pv (.str []), .pv (.int .i64 (0))], none, 0⟩,
   ⟨none, .store 67 (.t 20) (.t 437), none, 47⟩,
   ⟨(some 21), .mv (.t 438), none, 127⟩] false)
 (.seq (.reg [⟨(some 439), .mv (.t 6), none, 0⟩,
   ⟨(some 440), .mv (.t 439), none, 1⟩,
   ⟨(some 441), .mv (.t 17), (some (440, true)), 3⟩,
   ⟨(some 442), .pick (.t 440) (.t 441) (.c (.pv (.bool false))), none, 7⟩,
   ⟨(some 443), .mv (.t 442), none, 15⟩,
   ⟨(some 444), .mv (.t 18), (some (443, true)), 31⟩,
   ⟨(some 445), .pick (.t 443) (.t 444) (.c (.pv (.bool false))), none, 63⟩,
   ⟨(some 446), .mv (.t 445), none, 127⟩,
   ⟨(some 447), .mv (.t 21), (some (446, true)), 255⟩,
   ⟨(some 448), .bin .eql (.t 447) (.c (.pv (.int .i64 (21)))), (some (446, true)), 511⟩,
   ⟨(some 449), .pick (.t 446) (.t 448) (.c (.pv (.bool false))), none, 1023⟩,
   ⟨(some 450), .mv (.t 449), none, 2047⟩,
   ⟨(some 451), .load true 67 (.t 20), (some (450, true)), 4095⟩,
   ⟨(some 452), .load true 67 (.t 19), (some (450, true)), 4095⟩,
   ⟨(some 453), .call (.f 28) [.t 451, .t 452], (some (450, true)), 16383⟩,
   ⟨(some 454), .pick (.t 450) (.t 453) (.c (.pv (.bool false))), none, 32767⟩,
   ⟨(some 0), .mv (.t 454), none, 65535⟩] false)
 (.ret))))))))))))))))))⟩
def c12 : RFn := ⟨2, 26, [.tmp 4],
 .seq (.reg [⟨(some 4), .mv (.c (.pv (.bool false))), none, 0⟩] false)
 (.seq (.seq (.reg [⟨(some 6), .mv (.t 0), none, 0⟩,
   ⟨(some 7), .slen (.t 6), none, 1⟩,
   ⟨(some 8), .mv (.t 1), none, 0⟩,
   ⟨(some 9), .slen (.t 8), none, 4⟩,
   ⟨(some 10), .bin .neq (.t 7) (.t 9), none, 15⟩] false)
 (.cond (.t 10)
  (.seq (.reg [⟨(some 4), .mv (.c (.pv (.bool false))), none, 0⟩] false)
  (.ret))
  (.skip)))
 (.seq (.seq (.reg [⟨(some 11), .mv (.t 0), none, 0⟩,
   ⟨(some 12), .slen (.t 11), none, 1⟩,
   ⟨(some 13), .mv (.c (.pv (.int .i64 (0)))), none, 0⟩] false)
 (.block 0
  (.loop [0, 1, 12, 13]
   (.seq (.reg [⟨(some 14), .bin .lss (.t 13) (.t 12), none, 0⟩] false)
   (.seq (.cond (.t 14)
    (.skip)
    (.exit 0))
   (.seq (.block 1
    (.seq (.reg [⟨(some 15), .mv (.t 13), none, 0⟩,
      ⟨(some 5), .mv (.t 15), none, 1⟩] false)
    (.seq (.reg [⟨(some 16), .mv (.t 0), none, 0⟩,
      ⟨(some 17), .mv (.t 5), none, 0⟩,
      ⟨(some 18), .iaddr 7 (.t 16) (.t 17), none, 3⟩,
      ⟨(some 19), .load true 7 (.t 18), none, 7⟩,
      ⟨(some 20), .mv (.t 1), none, 0⟩,
      ⟨(some 21), .mv (.t 5), none, 0⟩,
      ⟨(some 22), .iaddr 7 (.t 20) (.t 21), none, 48⟩,
      ⟨(some 23), .load true 7 (.t 22), none, 112⟩,
      ⟨(some 24), .eqs true [0, 1, 0, 2, 0, 0, 0] (.t 19) (.t 23), none, 255⟩] true)
    (.cond (.t 24)
     (.seq (.reg [⟨(some 4), .mv (.c (.pv (.bool false))), none, 0⟩] false)
     (.ret))
     (.skip)))))
   (.reg [⟨(some 25), .bin .add (.t 13) (.c (.pv (.int .i64 (1)))), none, 0⟩,
     ⟨(some 13), .mv (.t 25), none, 1⟩] false)))))))
 (.seq (.reg [⟨(some 4), .mv (.c (.pv (.bool true))), none, 0⟩] false)
 (.ret))))⟩
def c16 : RFn := ⟨0, 146, [.tmp 0],
 .seq (.reg [⟨(some 0), .mv (.c (.pv (.bool false))), none, 0⟩] false)
 (.seq (.reg [⟨(some 13), .call (.f 19) [.c (.pv (.int .i64 (3)))], none, 0⟩,
   ⟨(some 14), .bsl 7 1 [.pv (.int .i64 (0)), .pv (.bool false), .pv (.int .i64 (0)), .pv (.str []), .pv (.int .i64 (0)), .pv (.int .i64 (0)), .pv (.int .i64 (0))] [(0, .t 13)], none, 1⟩,
   ⟨(some 15), .call (.f 23) [.c (.pv (.str [115, 116, 114, 105, 110, 103])), .t 14], none, 3⟩,
   ⟨(some 12), .mv (.t 15), none, 7⟩,
   ⟨(some 16), .extract (.t 12) 0, none, 15⟩,
   ⟨(some 17), .extract (.t 12) 1, none, 15⟩,
   ⟨(some 1), .alloc [.emp 7, .emp 7, .emp 7, .emp 3, .pv (.int .i64 (0)), .pv (.int .i64 (0)), .pv (.int .i64 (0)), .pv (.int .i64 (0)), .pv (.int .i64 (0)), .pv (.int .i64 (0)), .pv (.int .i64 (0)), .emp 7, .pv (.int .i64 (0)), .pv (.int .i64 (0)), .pv (.int .i64 (0)), .pv (.int .i64 (0)), .pv (.int .i64 (0)), .pv (.int .i64 (0)), .pv (.int .i64 (0)), .pv (.int .i64 (0)), .pv (.int .i64 (0)), .pv (.int .i64 (0)), .pv (.int .i64 (0)), .pv (.int .i64 (0)), .pv (.int .i64 (0)), .pv (.int .i64 (0)), .pv (.int .i64 (0)), .pv (.int .i64 (0)), .pv (.int .i64 (0)), .pv (.int .i64 (0)), .pv (.int .i64 (0)), .pv (.int .i64 (0)), .pv (.bool false), .pv (.bool false), .emp 47, .pv (.int .i64 (0)), .pv (.int .i64 (0)), .pv (.int .i64 (0)), .pv (.int .i64 (0)), .pv (.int .i64 (0)), .pv (.int .i64 (0)), .pv (.int .i64 (0)), .pv (.int .i64 (0)), .emp 1, .pv (.int .i64 (0)), .pv (.int .i64 (0)), .emp 2, .pv (.int .i64 (0)), .pv (.bool false), .pv (.int .i64 (0)), .pv (.str []), .pv (.int .i64 (0)), .pv (.int .i64 (0)), .pv (.int .i64 (0)), .pv (.int .i64 (0)), .pv (.int .i64 (0)), .pv (.int .i64 (0)), .pv (.int .i64 (0)), .pv (.int .i64 (0)), .pv (.int .i64 (0)), .pv (.int .i64 (0)), .pv (.int .i64 (0)), .emp 57, .emp 47, .emp 3, .pv (.str []), .pv (.int .i64 (0))], none, 0⟩,
   ⟨none, .store 67 (.t 1) (.t 16), none, 95⟩,
   ⟨(some 2), .mv (.t 17), none, 255⟩] false)
 (.seq (.reg [⟨(some 19), .call (.f 20) [.c (.pv (.int .i64 (0))), .c (.pv (.int .i64 (6)))], none, 0⟩,
   ⟨(some 20), .call (.f 19) [.c (.pv (.int .i64 (1)))], none, 1⟩,
   ⟨(some 21), .call (.f 19) [.c (.pv (.int .i64 (65)))], none, 3⟩,
   ⟨(some 22), .bsl 7 3 [.pv (.int .i64 (0)), .pv (.bool false), .pv (.int .i64 (0)), .pv (.str []), .pv (.int .i64 (0)), .pv (.int .i64 (0)), .pv (.int .i64 (0))] [(0, .t 19), (1, .t 20), (2, .t 21)], none, 7⟩,
   ⟨(some 23), .call (.f 23) [.c (.pv (.str [112, 117, 116])), .t 22], none, 15⟩,
   ⟨(some 18), .mv (.t 23), none, 31⟩,
   ⟨(some 24), .extract (.t 18) 0, none, 63⟩,
   ⟨(some 25), .extract (.t 18) 1, none, 63⟩,
   ⟨(some 3), .alloc [.emp 7, .emp 7, .emp 7, .emp 3, .pv (.int .i64 (0)), .pv (.int .i64 (0)), .pv (.int .i64 (0)), .pv (.int .i64 (0)), .pv (.int .i64 (0)), .pv (.int .i64 (0)), .pv (.int .i64 (0)), .emp 7, .pv (.int .i64 (0)), .pv (.int .i64 (0)), .pv (.int .i64 (0)), .pv (.int .i64 (0)), .pv (.int .i64 (0)), .pv (.int .i64 (0)), .pv (.int .i64 (0)), .pv (.int .i64 (0)), .pv (.int .i64 (0)), .pv (.int .i64 (0)), .pv (.int .i64 (0)), .pv (.int .i64 (0)), .pv (.int .i64 (0)), .pv (.int .i64 (0)), .pv (.int .i64 (0)), .pv (.int .i64 (0)), .pv (.int .i64 (0)), .pv (.int .i64 (0)), .pv (.int .i64 (0)), .pv (.int .i64 (0)), .pv (.bool false), .pv (.bool false), .emp 47, .pv (.int .i64 (0)), .pv (.int .i64 (0)), .pv (.int .i64 (0)), .pv (.int .i64 (0)), .pv (.int .i64 (0)), .pv (.int .i64 (0)), .pv (.int .i64 (0)), .pv (.int .i64 (0)), .emp 1, .pv (.int .i64 (0)), .pv (.int .i64 (0)), .emp 2, .pv (.int .i64 (0)), .pv (.bool false), .pv (.int .i64 (0)), .pv (.str []), .pv (.int .i64 (0)), .pv (.int .i64 (0)), .pv (.int .i64 (0)), .pv (.int .i64 (0)), .pv (.int .i64 (0)), .pv (.int .i64 (0)), .pv (.int .i64 (0)), .pv (.int .i64 (0)), .pv (.int .i64 (0)), .pv (.int .i64 (0)), .pv (.int .i64 (0)), .emp 57, .emp 47, .emp 3, .pv (.str []), .pv (.int .i64 (0))], none, 0⟩,
   ⟨none, .store 67 (.t 3) (.t 24), none, 383⟩,
   ⟨(some 4), .mv (.t 25), none, 1023⟩] false)
 (.seq (.reg [⟨(some 27), .call (.f 20) [.c (.pv (.int .i64 (0))), .c (.pv (.int .i64 (6)))], none, 0⟩,
   ⟨(some 28), .call (.f 19) [.c (.pv (.int .i64 (1)))], none, 1⟩,
   ⟨(some 29), .call (.f 20) [.c (.pv (.int .i64 (3))), .c (.pv (.int .i64 (2)))], none, 3⟩,
   ⟨(some 30), .bsl 7 3 [.pv (.int .i64 (0)), .pv (.bool false), .pv (.int .i64 (0)), .pv (.str []), .pv (.int .i64 (0)), .pv (.int .i64 (0)), .pv (.int .i64 (0))] [(0, .t 27), (1, .t 28), (2, .t 29)], none, 7⟩,
   ⟨(some 31), .call (.f 23) [.c (.pv (.str [112, 117, 116, 105, 110, 116, 101, 114, 118, 97, 108])), .t 30], none, 15⟩,
   ⟨(some 26), .mv (.t 31), none, 31⟩,
   ⟨(some 32), .extract (.t 26) 0, none, 63⟩,
   ⟨(some 33), .extract (.t 26) 1, none, 63⟩,
   ⟨(some 5), .alloc [.emp 7, .emp 7, .emp 7, .emp 3, .pv (.int .i64 (0)), .pv (.int .i64 (0)), .pv (.int .i64 (0)), .pv (.int .i64 (0)), .pv (.int .i64 (0)), .pv (.int .i64 (0)), .pv (.int .i64 (0)), .emp 7, .pv (.int .i64 (0)), .pv (.int .i64 (0)), .pv (.int .i64 (0)), .pv (.int .i64 (0)), .pv (.int .i64 (0)), .pv (.int .i64 (0)), .pv (.int .i64 (0)), .pv (.int .i64 (0)), .pv (.int .i64 (0)), .pv (.int .i64 (0)), .pv (.int .i64 (0)), .pv (.int .i64 (0)), .pv (.int .i64 (0)), .pv (.int .i64 (0)), .pv (.int .i64 (0)), .pv (.int .i64 (0)), .pv (.int .i64 (0)), .pv (.int .i64 (0)), .pv (.int .i64 (0)), .pv (.int .i64 (0)), .pv (.bool false), .pv (.bool false), .emp 47, .pv (.int .i64 (0)), .pv (.int .i64 (0)), .pv (.int .i64 (0)), .pv (.int .i64 (0)), .pv (.int .i64 (0)), .pv (.int .i64 (0)), .pv (.int .i64 (0)), .pv (.int .i64 (0)), .emp 1, .pv (.int .i64 (0)), .pv (.int .i64 (0)), .emp 2, .pv (.int .i64 (0)), .pv (.bool false), .pv (.int .i64 (0)), .pv (.str []), .pv (.int .i64 (0)), .pv (.int .i64 (0)), .pv (.int .i64 (0)), .pv (.int .i64 (0)), .pv (.int .i64 (0)), .pv (.int .i64 (0)), .pv (.int .i64 (0)), .pv (.int .i64 (0)), .pv (.int .i64 (0)), .pv (.int .i64 (0)), .pv (.int .i64 (0)), .emp 57, .emp 47, .emp 3, .pv (.str []), .pv (.int .i64 (0))], none, 0⟩,
   ⟨none, .store 67 (.t 5) (.t 32), none, 383⟩,
   ⟨(some 6), .mv (.t 33), none, 1023⟩] false)
 (.seq (.reg [⟨(some 35), .build [.pv (.int .i64 (0)), .pv (.bool false), .pv (.int .i64 (0)), .pv (.str []), .pv (.int .i64 (0)), .pv (.int .i64 (0)), .pv (.int .i64 (0))] [(0, 1, .c (.pv (.int .i64 (1))))], none, 0⟩,
   ⟨(some 36), .call (.f 19) [.c (.pv (.int .i64 (1)))], none, 0⟩,
   ⟨(some 37), .call (.f 19) [.c (.pv (.int .i64 (2)))], none, 2⟩,
   ⟨(some 38), .bsl 7 3 [.pv (.int .i64 (0)), .pv (.bool false), .pv (.int .i64 (0)), .pv (.str []), .pv (.int .i64 (0)), .pv (.int .i64 (0)), .pv (.int .i64 (0))] [(0, .t 35), (1, .t 36), (2, .t 37)], none, 7⟩,
   ⟨(some 39), .call (.f 23) [.c (.pv (.str [93])), .t 38], none, 15⟩,
   ⟨(some 34), .mv (.t 39), none, 31⟩,
   ⟨(some 40), .extract (.t 34) 0, none, 63⟩,
   ⟨(some 41), .extract (.t 34) 1, none, 63⟩,
   ⟨(some 7), .alloc [.emp 7, .emp 7, .emp 7, .emp 3, .pv (.int .i64 (0)), .pv (.int .i64 (0)), .pv (.int .i64 (0)), .pv (.int .i64 (0)), .pv (.int .i64 (0)), .pv (.int .i64 (0)), .pv (.int .i64 (0)), .emp 7, .pv (.int .i64 (0)), .pv (.int .i64 (0)), .pv (.int .i64 (0)), .pv (.int .i64 (0)), .pv (.int .i64 (0)), .pv (.int .i64 (0)), .pv (.int .i64 (0)), .pv (.int .i64 (0)), .pv (.int .i64 (0)), .pv (.int .i64 (0)), .pv (.int .i64 (0)), .pv (.int .i64 (0)), .pv (.int .i64 (0)), .pv (.int .i64 (0)), .pv (.int .i64 (0)), .pv (.int .i64 (0)), .pv (.int .i64 (0)), .pv (.int .i64 (0)), .pv (.int .i64 (0)), .pv (.int .i64 (0)), .pv (.bool false), .pv (.bool false), .emp 47, .pv (.int .i64 (0)), .pv (.int .i64 (0)), .pv (.int .i64 (0)), .pv (.int .i64 (0)), .pv (.int .i64 (0)), .pv (.int .i64 (0)), .pv (.int .i64 (0)), .pv (.int .i64 (0)), .emp 1, .pv (.int .i64 (0)), .pv (.int .i64 (0)), .emp 2, .pv (.int .i64 (0)), .pv (.bool false), .pv (.int .i64 (0)), .pv (.str []), .pv (.int .i64 (0)), .pv (.int .i64 (0)), .pv (.int .i64 (0)), .pv (.int .i64 (0)), .pv (.int .i64 (0)), .pv (.int .i64 (0)), .pv (.int .i64 (0)), .pv (.int .i64 (0)), .pv (.int .i64 (0)), .pv (.int .i64 (0)), .pv (.int .i64 (0)), .emp 57, .emp 47, .emp 3, .pv (.str []), .pv (.int .i64 (0))], none, 0⟩,
   ⟨none, .store 67 (.t 7) (.t 40), none, 383⟩,
   ⟨(some 8), .mv (.t 41), none, 1023⟩] false)
 (.seq (.seq (.reg [⟨(some 42), .mv (.t 2), none, 0⟩,
   ⟨(some 43), .bin .neq (.t 42) (.c (.pv (.int .i64 (0)))), none, 1⟩,
   ⟨(some 44), .mv (.t 43), none, 3⟩,
   ⟨(some 45), .mv (.t 4), (some (44, false)), 7⟩,
   ⟨(some 46), .bin .neq (.t 45) (.c (.pv (.int .i64 (0)))), (some (44, false)), 15⟩,
   ⟨(some 47), .pick (.t 44) (.c (.pv (.bool true))) (.t 46), none, 31⟩,
   ⟨(some 48), .mv (.t 47), none, 63⟩,
   ⟨(some 49), .mv (.t 6), (some (48, false)), 127⟩,
   ⟨(some 50), .bin .neq (.t 49) (.c (.pv (.int .i64 (0)))), (some (48, false)), 255⟩,
   ⟨(some 51), .pick (.t 48) (.c (.pv (.bool true))) (.t 50), none, 511⟩,
   ⟨(some 52), .mv (.t 51), none, 1023⟩,
   ⟨(some 53), .mv (.t 8), (some (52, false)), 2047⟩,
   ⟨(some 54), .bin .neq (.t 53) (.c (.pv (.int .i64 (0)))), (some (52, false)), 4095⟩,
   ⟨(some 55), .pick (.t 52) (.c (.pv (.bool true))) (.t 54), none, 8191⟩,
   ⟨(some 56), .mv (.t 55), none, 16383⟩,
   ⟨(some 57), .faddr (.t 1) 0, (some (56, false)), 32767⟩,
   ⟨(some 58), .load false 1 (.t 57), (some (56, false)), 65535⟩,
   ⟨(some 59), .slen (.t 58), (some (56, false)), 131071⟩,
   ⟨(some 60), .bin .neq (.t 59) (.c (.pv (.int .i64 (1)))), (some (56, false)), 262143⟩,
   ⟨(some 61), .pick (.t 56) (.c (.pv (.bool true))) (.t 60), none, 524287⟩,
   ⟨(some 62), .mv (.t 61), none, 1048575⟩,
   ⟨(some 63), .faddr (.t 7) 0, (some (62, false)), 2097151⟩,
   ⟨(some 64), .load false 1 (.t 63), (some (62, false)), 4194303⟩,
   ⟨(some 65), .slen (.t 64), (some (62, false)), 8388607⟩,
   ⟨(some 66), .bin .neq (.t 65) (.c (.pv (.int .i64 (1)))), (some (62, false)), 16777215⟩,
   ⟨(some 67), .pick (.t 62) (.c (.pv (.bool true))) (.t 66), none, 33554431⟩] false)
 (.cond (.t 67)
  (.seq (.reg [⟨(some 0), .mv (.c (.pv (.bool false))), none, 0⟩] false)
  (.ret))
  (.skip)))
 (.seq (.reg [⟨(some 69), .faddr (.t 7) 2, none, 0⟩,
   ⟨(some 70), .load false 1 (.t 69), none, 1⟩,
   ⟨(some 71), .faddr (.t 7) 0, none, 0⟩,
   ⟨(some 72), .load false 1 (.t 71), none, 4⟩,
   ⟨(some 73), .iaddr 7 (.t 72) (.c (.pv (.int .i64 (0)))), none, 12⟩,
   ⟨(some 74), .load true 7 (.t 73), none, 28⟩,
   ⟨(some 75), .call (.f 48) [.t 70, .t 74], none, 63⟩,
   ⟨(some 68), .mv (.t 75), none, 127⟩,
   ⟨(some 76), .extract (.t 68) 0, none, 255⟩,
   ⟨(some 77), .extract (.t 68) 1, none, 255⟩,
   ⟨(some 9), .mv (.t 76), none, 511⟩,
   ⟨(some 10), .mv (.t 77), none, 2047⟩] true)
 (.seq (.reg [⟨(some 78), .call (.f 20) [.c (.pv (.int .i64 (0))), .c (.pv (.int .i64 (3)))], none, 0⟩,
   ⟨(some 11), .alloc [.pv (.int .i64 (0)), .pv (.bool false), .pv (.int .i64 (0)), .pv (.str []), .pv (.int .i64 (0)), .pv (.int .i64 (0)), .pv (.int .i64 (0))], none, 0⟩,
   ⟨none, .store 7 (.t 11) (.t 78), none, 3⟩] false)
 (.seq (.reg [⟨(some 79), .faddr (.t 11) 5, none, 0⟩,
   ⟨none, .store 1 (.t 79) (.c (.pv (.int .i64 (2)))), none, 1⟩] false)
 (.seq (.reg [⟨(some 80), .load true 67 (.t 1), none, 0⟩,
   ⟨(some 81), .faddr (.t 1) 0, none, 0⟩,
   ⟨(some 82), .load false 1 (.t 81), none, 2⟩,
   ⟨(some 83), .iaddr 7 (.t 82) (.c (.pv (.int .i64 (0)))), none, 6⟩,
   ⟨(some 84), .load true 7 (.t 83), none, 14⟩,
   ⟨(some 85), .call (.f 24) [.t 80, .t 84, .c (.pv (.str [0, 0, 0]))], none, 31⟩,
   ⟨(some 86), .mv (.t 85), none, 63⟩,
   ⟨(some 87), .load true 67 (.t 3), (some (86, true)), 127⟩,
   ⟨(some 88), .call (.f 20) [.c (.pv (.int .i64 (0))), .c (.pv (.int .i64 (6)))], (some (86, true)), 127⟩,
   ⟨(some 89), .call (.f 24) [.t 87, .t 88, .c (.pv (.str [97, 65, 99, 100, 101, 102]))], (some (86, true)), 511⟩,
   ⟨(some 90), .pick (.t 86) (.t 89) (.c (.pv (.bool false))), none, 1023⟩,
   ⟨(some 91), .mv (.t 90), none, 2047⟩,
   ⟨(some 92), .load true 67 (.t 5), (some (91, true)), 4095⟩,
   ⟨(some 93), .call (.f 20) [.c (.pv (.int .i64 (0))), .c (.pv (.int .i64 (6)))], (some (91, true)), 4095⟩,
   ⟨(some 94), .call (.f 24) [.t 92, .t 93, .c (.pv (.str [97, 88, 89, 100, 101, 102]))], (some (91, true)), 16383⟩,
   ⟨(some 95), .pick (.t 91) (.t 94) (.c (.pv (.bool false))), none, 32767⟩,
   ⟨(some 96), .mv (.t 95), none, 65535⟩,
   ⟨(some 97), .mv (.t 10), (some (96, true)), 131071⟩,
   ⟨(some 98), .bin .eql (.t 97) (.c (.pv (.int .i64 (0)))), (some (96, true)), 262143⟩,
   ⟨(some 99), .pick (.t 96) (.t 98) (.c (.pv (.bool false))), none, 524287⟩,
   ⟨(some 100), .mv (.t 99), none, 1048575⟩,
   ⟨(some 101), .mv (.t 9), (some (100, true)), 2097151⟩,
   ⟨(some 102), .call (.f 19) [.c (.pv (.int .i64 (1)))], (some (100, true)), 2097151⟩,
   ⟨(some 103), .call (.f 19) [.c (.pv (.int .i64 (2)))], (some (100, true)), 6291455⟩,
   ⟨(some 104), .bsl 7 2 [.pv (.int .i64 (0)), .pv (.bool false), .pv (.int .i64 (0)), .pv (.str []), .pv (.int .i64 (0)), .pv (.int .i64 (0)), .pv (.int .i64 (0))] [(0, .t 102), (1, .t 103)], (some (100, true)), 14680063⟩,
   ⟨(some 105), .call (.f 12) [.t 101, .t 104], (some (100, true)), 33554431⟩,
   ⟨(some 106), .pick (.t 100) (.t 105) (.c (.pv (.bool false))), none, 67108863⟩,
   ⟨(some 107), .mv (.t 106), none, 134217727⟩,
   ⟨(some 108), .call (.f 19) [.c (.pv (.int .i64 (98)))], (some (107, true)), 268435455⟩,
   ⟨(some 109), .bsl 7 1 [.pv (.int .i64 (0)), .pv (.bool false), .pv (.int .i64 (0)), .pv (.str []), .pv (.int .i64 (0)), .pv (.int .i64 (0)), .pv (.int .i64 (0))] [(0, .t 108)], (some (107, true)), 536870911⟩,
   ⟨(some 110), .call (.f 20) [.c (.pv (.int .i64 (0))), .c (.pv (.int .i64 (6)))], (some (107, true)), 536870911⟩,
   ⟨(some 111), .call (.f 19) [.c (.pv (.int .i64 (1)))], (some (107, true)), 1610612735⟩,
   ⟨(some 112), .bsl 7 2 [.pv (.int .i64 (0)), .pv (.bool false), .pv (.int .i64 (0)), .pv (.str []), .pv (.int .i64 (0)), .pv (.int .i64 (0)), .pv (.int .i64 (0))] [(0, .t 110), (1, .t 111)], (some (107, true)), 3758096383⟩,
   ⟨(some 113), .call (.f 18) [.c (.pv (.str [103, 101, 116])), .t 109, .t 112], (some (107, true)), 8589934591⟩,
   ⟨(some 114), .pick (.t 107) (.t 113) (.c (.pv (.bool false))), none, 17179869183⟩,
   ⟨(some 115), .mv (.t 114), none, 34359738367⟩,
   ⟨(some 116), .load true 7 (.t 11), (some (115, true)), 68719476735⟩,
   ⟨(some 117), .bsl 7 1 [.pv (.int .i64 (0)), .pv (.bool false), .pv (.int .i64 (0)), .pv (.str []), .pv (.int .i64 (0)), .pv (.int .i64 (0)), .pv (.int .i64 (0))] [(0, .t 116)], (some (115, true)), 137438953471⟩,
   ⟨(some 118), .call (.f 20) [.c (.pv (.int .i64 (0))), .c (.pv (.int .i64 (6)))], (some (115, true)), 68719476735⟩,
   ⟨(some 119), .call (.f 19) [.c (.pv (.int .i64 (2)))], (some (115, true)), 343597383679⟩,
   ⟨(some 120), .call (.f 19) [.c (.pv (.int .i64 (3)))], (some (115, true)), 893353197567⟩,
   ⟨(some 121), .bsl 7 3 [.pv (.int .i64 (0)), .pv (.bool false), .pv (.int .i64 (0)), .pv (.str []), .pv (.int .i64 (0)), .pv (.int .i64 (0)), .pv (.int .i64 (0))] [(0, .t 118), (1, .t 119), (2, .t 120)], (some (115, true)), 1992864825343⟩,
   ⟨(some 122), .call (.f 18) [.c (.pv (.str [103, 101, 116, 105, 110, 116, 101, 114, 118, 97, 108])), .t 117, .t 121], (some (115, true)), 4398046511103⟩,
   ⟨(some 123), .pick (.t 115) (.t 122) (.c (.pv (.bool false))), none, 8796093022207⟩,
   ⟨(some 124), .mv (.t 123), none, 17592186044415⟩,
   ⟨(some 125), .call (.f 19) [.c (.pv (.int .i64 (5)))], (some (124, true)), 35184372088831⟩,
   ⟨(some 126), .call (.f 19) [.c (.pv (.int .i64 (6)))], (some (124, true)), 70368744177663⟩,
   ⟨(some 127), .call (.f 22) [.c (.pv (.int .i64 (1))), .c (.pv (.int .i64 (2)))], (some (124, true)), 140737488355327⟩,
   ⟨(some 128), .bsl 7 3 [.pv (.int .i64 (0)), .pv (.bool false), .pv (.int .i64 (0)), .pv (.str []), .pv (.int .i64 (0)), .pv (.int .i64 (0)), .pv (.int .i64 (0))] [(0, .t 125), (1, .t 126), (2, .t 127)], (some (124, true)), 281474976710655⟩,
   ⟨(some 129), .call (.f 22) [.c (.pv (.int .i64 (1))), .c (.pv (.int .i64 (2)))], (some (124, true)), 281474976710655⟩,
   ⟨(some 130), .bsl 7 1 [.pv (.int .i64 (0)), .pv (.bool false), .pv (.int .i64 (0)), .pv (.str []), .pv (.int .i64 (0)), .pv (.int .i64 (0)), .pv (.int .i64 (0))] [(0, .t 129)], (some (124, true)), 844424930131967⟩,
   ⟨(some 131), .call (.f 18) [.c (.pv (.str [97, 108, 111, 97, 100])), .t 128, .t 130], (some (124, true)), 2251799813685247⟩,
   ⟨(some 132), .pick (.t 124) (.t 131) (.c (.pv (.bool false))), none, 4503599627370495⟩,
   ⟨(some 133), .mv (.t 132), none, 9007199254740991⟩,
   ⟨(some 134), .call (.f 22) [.c (.pv (.int .i64 (1))), .c (.pv (.int .i64 (2)))], (some (133, true)), 18014398509481983⟩,
   ⟨(some 135), .call (.f 19) [.c (.pv (.int .i64 (2)))], (some (133, true)), 36028797018963967⟩,
   ⟨(some 136), .bsl 7 2 [.pv (.int .i64 (0)), .pv (.bool false), .pv (.int .i64 (0)), .pv (.str []), .pv (.int .i64 (0)), .pv (.int .i64 (0)), .pv (.int .i64 (0))] [(0, .t 134), (1, .t 135)], (some (133, true)), 72057594037927935⟩,
   ⟨(some 137), .call (.f 25) [.c (.pv (.str [103, 101, 116])), .c (.pv (.int .i64 (23))), .t 136], (some (133, true)), 144115188075855871⟩,
   ⟨(some 138), .pick (.t 133) (.t 137) (.c (.pv (.bool false))), none, 288230376151711743⟩,
   ⟨(some 139), .mv (.t 138), none, 576460752303423487⟩,
   ⟨(some 140), .call (.f 21) [.c (.pv (.int .i64 (1))), .c (.pv (.int .i64 (2)))], (some (139, true)), 1152921504606846975⟩,
   ⟨(some 141), .call (.f 19) [.c (.pv (.int .i64 (0)))], (some (139, true)), 2305843009213693951⟩,
   ⟨(some 142), .call (.f 19) [.c (.pv (.int .i64 (1)))], (some (139, true)), 4611686018427387903⟩,
   ⟨(some 143), .bsl 7 3 [.pv (.int .i64 (0)), .pv (.bool false), .pv (.int .i64 (0)), .pv (.str []), .pv (.int .i64 (0)), .pv (.int .i64 (0)), .pv (.int .i64 (0))] [(0, .t 140), (1, .t 141), (2, .t 142)], (some (139, true)), 9223372036854775807⟩,
   ⟨(some 144), .call (.f 25) [.c (.pv (.str [112, 117, 116])), .c (.pv (.int .i64 (31))), .t 143], (some (139, true)), 18446744073709551615⟩,
   ⟨(some 145), .pick (.t 139) (.t 144) (.c (.pv (.bool false))), none, 36893488147419103231⟩,
   ⟨(some 0), .mv (.t 145), none, 73786976294838206463⟩] true)
 (.ret))))))))))⟩
def c17 : RFn := ⟨2, 8, [.cell 4 true 7],
 .seq (.reg [⟨(some 4), .alloc [.pv (.int .i64 (0)), .pv (.bool false), .pv (.int .i64 (0)), .pv (.str []), .pv (.int .i64 (0)), .pv (.int .i64 (0)), .pv (.int .i64 (0))], none, 0⟩] false)
 (.seq (.reg [⟨(some 5), .mv (.t 0), none, 0⟩,
   ⟨(some 6), .mv (.t 1), none, 0⟩,
   ⟨(some 7), .build [.pv (.int .i64 (0)), .pv (.bool false), .pv (.int .i64 (0)), .pv (.str []), .pv (.int .i64 (0)), .pv (.int .i64 (0)), .pv (.int .i64 (0))] [(0, 1, .c (.pv (.int .i64 (6)))), (5, 1, .t 5), (6, 1, .t 6)], none, 3⟩,
   ⟨none, .store 7 (.t 4) (.t 7), none, 7⟩] false)
 (.ret))⟩
def c18 : RFn := ⟨3, 23, [.tmp 6],
 .seq (.reg [⟨(some 6), .mv (.c (.pv (.bool false))), none, 0⟩] false)
 (.seq (.reg [⟨(some 10), .mv (.t 0), none, 0⟩,
   ⟨(some 11), .mv (.t 2), none, 0⟩,
   ⟨(some 12), .call (.f 23) [.t 10, .t 11], none, 3⟩,
   ⟨(some 9), .mv (.t 12), none, 7⟩,
   ⟨(some 13), .extract (.t 9) 0, none, 15⟩,
   ⟨(some 14), .extract (.t 9) 1, none, 15⟩,
   ⟨(some 7), .alloc [.emp 7, .emp 7, .emp 7, .emp 3, .pv (.int .i64 (0)), .pv (.int .i64 (0)), .pv (.int .i64 (0)), .pv (.int .i64 (0)), .pv (.int .i64 (0)), .pv (.int .i64 (0)), .pv (.int .i64 (0)), .emp 7, .pv (.int .i64 (0)), .pv (.int .i64 (0)), .pv (.int .i64 (0)), .pv (.int .i64 (0)), .pv (.int .i64 (0)), .pv (.int .i64 (0)), .pv (.int .i64 (0)), .pv (.int .i64 (0)), .pv (.int .i64 (0)), .pv (.int .i64 (0)), .pv (.int .i64 (0)), .pv (.int .i64 (0)), .pv (.int .i64 (0)), .pv (.int .i64 (0)), .pv (.int .i64 (0)), .pv (.int .i64 (0)), .pv (.int .i64 (0)), .pv (.int .i64 (0)), .pv (.int .i64 (0)), .pv (.int .i64 (0)), .pv (.bool false), .pv (.bool false), .emp 47, .pv (.int .i64 (0)), .pv (.int .i64 (0)), .pv (.int .i64 (0)), .pv (.int .i64 (0)), .pv (.int .i64 (0)), .pv (.int .i64 (0)), .pv (.int .i64 (0)), .pv (.int .i64 (0)), .emp 1, .pv (.int .i64 (0)), .pv (.int .i64 (0)), .emp 2, .pv (.int .i64 (0)), .pv (.bool false), .pv (.int .i64 (0)), .pv (.str []), .pv (.int .i64 (0)), .pv (.int .i64 (0)), .pv (.int .i64 (0)), .pv (.int .i64 (0)), .pv (.int .i64 (0)), .pv (.int .i64 (0)), .pv (.int .i64 (0)), .pv (.int .i64 (0)), .pv (.int .i64 (0)), .pv (.int .i64 (0)), .pv (.int .i64 (0)), .emp 57, .emp 47, .emp 3, .pv (.str []), .pv (.int .i64 (0))], none, 0⟩,
   ⟨none, .store 67 (.t 7) (.t 13), none, 95⟩,
   ⟨(some 8), .mv (.t 14), none, 255⟩] false)
 (.seq (.reg [⟨(some 15), .mv (.t 8), none, 0⟩,
   ⟨(some 16), .bin .eql (.t 15) (.c (.pv (.int .i64 (0)))), none, 1⟩,
   ⟨(some 17), .mv (.t 16), none, 3⟩,
   ⟨(some 18), .faddr (.t 7) 0, (some (17, true)), 7⟩,
   ⟨(some 19), .load false 1 (.t 18), (some (17, true)), 15⟩,
   ⟨(some 20), .mv (.t 1), (some (17, true)), 7⟩,
   ⟨(some 21), .call (.f 12) [.t 19, .t 20], (some (17, true)), 63⟩,
   ⟨(some 22), .pick (.t 17) (.t 21) (.c (.pv (.bool false))), none, 127⟩,
   ⟨(some 6), .mv (.t 22), none, 255⟩] false)
 (.ret)))⟩
def c19 : RFn := ⟨1, 5, [.cell 2 true 7],
 .seq (.reg [⟨(some 2), .alloc [.pv (.int .i64 (0)), .pv (.bool false), .pv (.int .i64 (0)), .pv (.str []), .pv (.int .i64 (0)), .pv (.int .i64 (0)), .pv (.int .i64 (0))], none, 0⟩] false)
 (.seq (.reg [⟨(some 3), .mv (.t 0), none, 0⟩,
   ⟨(some 4), .build [.pv (.int .i64 (0)), .pv (.bool false), .pv (.int .i64 (0)), .pv (.str []), .pv (.int .i64 (0)), .pv (.int .i64 (0)), .pv (.int .i64 (0))] [(0, 1, .c (.pv (.int .i64 (3)))), (2, 1, .t 3)], none, 1⟩,
   ⟨none, .store 7 (.t 2) (.t 4), none, 3⟩] false)
 (.ret))⟩
def c20 : RFn := ⟨2, 8, [.cell 4 true 7],
 .seq (.reg [⟨(some 4), .alloc [.pv (.int .i64 (0)), .pv (.bool false), .pv (.int .i64 (0)), .pv (.str []), .pv (.int .i64 (0)), .pv (.int .i64 (0)), .pv (.int .i64 (0))], none, 0⟩] false)
 (.seq (.reg [⟨(some 5), .mv (.t 0), none, 0⟩,
   ⟨(some 6), .mv (.t 1), none, 0⟩,
   ⟨(some 7), .build [.pv (.int .i64 (0)), .pv (.bool false), .pv (.int .i64 (0)), .pv (.str []), .pv (.int .i64 (0)), .pv (.int .i64 (0)), .pv (.int .i64 (0))] [(0, 1, .c (.pv (.int .i64 (6)))), (4, 1, .t 5), (6, 1, .t 6)], none, 3⟩,
   ⟨none, .store 7 (.t 4) (.t 7), none, 7⟩] false)
 (.ret))⟩
def c21 : RFn := ⟨2, 8, [.cell 4 true 7],
 .seq (.reg [⟨(some 4), .alloc [.pv (.int .i64 (0)), .pv (.bool false), .pv (.int .i64 (0)), .pv (.str []), .pv (.int .i64 (0)), .pv (.int .i64 (0)), .pv (.int .i64 (0))], none, 0⟩] false)
 (.seq (.reg [⟨(some 5), .mv (.t 0), none, 0⟩,
   ⟨(some 6), .mv (.t 1), none, 0⟩,
   ⟨(some 7), .build [.pv (.int .i64 (0)), .pv (.bool false), .pv (.int .i64 (0)), .pv (.str []), .pv (.int .i64 (0)), .pv (.int .i64 (0)), .pv (.int .i64 (0))] [(0, 1, .c (.pv (.int .i64 (8)))), (4, 1, .t 5), (6, 1, .t 6)], none, 3⟩,
   ⟨none, .store 7 (.t 4) (.t 7), none, 7⟩] false)
 (.ret))⟩
def c22 : RFn := ⟨2, 8, [.cell 4 true 7],
 .seq (.reg [⟨(some 4), .alloc [.pv (.int .i64 (0)), .pv (.bool false), .pv (.int .i64 (0)), .pv (.str []), .pv (.int .i64 (0)), .pv (.int .i64 (0)), .pv (.int .i64 (0))], none, 0⟩] false)
 (.seq (.reg [⟨(some 5), .mv (.t 0), none, 0⟩,
   ⟨(some 6), .mv (.t 1), none, 0⟩,
   ⟨(some 7), .build [.pv (.int .i64 (0)), .pv (.bool false), .pv (.int .i64 (0)), .pv (.str []), .pv (.int .i64 (0)), .pv (.int .i64 (0)), .pv (.int .i64 (0))] [(0, 1, .c (.pv (.int .i64 (7)))), (4, 1, .t 5), (6, 1, .t 6)], none, 3⟩,
   ⟨none, .store 7 (.t 4) (.t 7), none, 7⟩] false)
 (.ret))⟩
def c23 : RFn := ⟨2, 13, [.cell 4 true 67, .tmp 5],
 .seq (.reg [⟨(some 4), .alloc [.emp 7, .emp 7, .emp 7, .emp 3, .pv (.int .i64 (0)), .pv (.int .i64 (0)), .pv (.int .i64 (0)), .pv (.int .i64 (0)), .pv (.int .i64 (0)), .pv (.int .i64 (0)), .pv (.int .i64 (0)), .emp 7, .pv (.int .i64 (0)), .pv (.int .i64 (0)), .pv (.int .i64 (0)), .pv (.int .i64 (0)), .pv (.int .i64 (0)), .pv (.int .i64 (0)), .pv (.int .i64 (0)), .pv (.int .i64 (0)), .pv (.int .i64 (0)), .pv (.int .i64 (0)), .pv (.int .i64 (0)), .pv (.int .i64 (0)), .pv (.int .i64 (0)), .pv (.int .i64 (0)), .pv (.int .i64 (0)), .pv (.int .i64 (0)), .pv (.int .i64 (0)), .pv (.int .i64 (0)), .pv (.int .i64 (0)), .pv (.int .i64 (0)), .pv (.bool false), .pv (.bool false), .emp 47, .pv (.int .i64 (0)), .pv (.int .i64 (0)), .pv (.int .i64 (0)), .pv (.int .i64 (0)), .pv (.int .i64 (0)), .pv (.int .i64 (0)), .pv (.int .i64 (0)), .pv (.int .i64 (0)), .emp 1, .pv (.int .i64 (0)), .pv (.int .i64 (0)), .emp 2, .pv (.int .i64 (0)), .pv (.bool false), .pv (.int .i64 (0)), .pv (.str []), .pv (.int .i64 (0)), .pv (.int .i64 (0)), .pv (.int .i64 (0)), .pv (.int .i64 (0)), .pv (.int .i64 (0)), .pv (.int .i64 (0)), .pv (.int .i64 (0)), .pv (.int .i64 (0)), .pv (.int .i64 (0)), .pv (.int .i64 (0)), .pv (.int .i64 (0)), .emp 57, .emp 47, .emp 3, .pv (.str []), .pv (.int .i64 (0))], none, 0⟩,
   ⟨(some 5), .mv (.c (.pv (.int .i64 (0)))), none, 0⟩] false)
 (.seq (.reg [⟨(some 6), .mv (.t 1), none, 0⟩,
   ⟨(some 7), .call (.f 26) [], none, 0⟩,
   ⟨(some 8), .build [.emp 7, .emp 7, .emp 7, .emp 3, .pv (.int .i64 (0)), .pv (.int .i64 (0)), .pv (.int .i64 (0)), .pv (.int .i64 (0)), .pv (.int .i64 (0)), .pv (.int .i64 (0)), .pv (.int .i64 (0)), .emp 7, .pv (.int .i64 (0)), .pv (.int .i64 (0)), .pv (.int .i64 (0)), .pv (.int .i64 (0)), .pv (.int .i64 (0)), .pv (.int .i64 (0)), .pv (.int .i64 (0)), .pv (.int .i64 (0)), .pv (.int .i64 (0)), .pv (.int .i64 (0)), .pv (.int .i64 (0)), .pv (.int .i64 (0)), .pv (.int .i64 (0)), .pv (.int .i64 (0)), .pv (.int .i64 (0)), .pv (.int .i64 (0)), .pv (.int .i64 (0)), .pv (.int .i64 (0)), .pv (.int .i64 (0)), .pv (.int .i64 (0)), .pv (.bool false), .pv (.bool false), .emp 47, .pv (.int .i64 (0)), .pv (.int .i64 (0)), .pv (.int .i64 (0)), .pv (.int .i64 (0)), .pv (.int .i64 (0)), .pv (.int .i64 (0)), .pv (.int .i64 (0)), .pv (.int .i64 (0)), .emp 1, .pv (.int .i64 (0)), .pv (.int .i64 (0)), .emp 2, .pv (.int .i64 (0)), .pv (.bool false), .pv (.int .i64 (0)), .pv (.str []), .pv (.int .i64 (0)), .pv (.int .i64 (0)), .pv (.int .i64 (0)), .pv (.int .i64 (0)), .pv (.int .i64 (0)), .pv (.int .i64 (0)), .pv (.int .i64 (0)), .pv (.int .i64 (0)), .pv (.int .i64 (0)), .pv (.int .i64 (0)), .pv (.int .i64 (0)), .emp 57, .emp 47, .emp 3, .pv (.str []), .pv (.int .i64 (0))] [(0, 1, .t 6), (2, 1, .t 7)], none, 3⟩,
   ⟨(some 9), .mv (.t 0), none, 0⟩,
   ⟨(some 10), .call (.f 27) [.t 8, .t 9], none, 15⟩,
   ⟨(some 11), .extract (.t 10) 0, none, 31⟩,
   ⟨(some 12), .extract (.t 10) 1, none, 31⟩,
   ⟨none, .store 67 (.t 4) (.t 11), none, 127⟩,
   ⟨(some 5), .mv (.t 12), none, 255⟩] false)
 (.ret))⟩
def c24 : RFn := ⟨3, 23, [.tmp 6],
 .seq (.reg [⟨(some 3), .box 67 (.t 0), none, 0⟩,
   ⟨(some 4), .box 7 (.t 1), none, 0⟩,
   ⟨(some 6), .mv (.c (.pv (.bool false))), none, 0⟩] false)
 (.seq (.reg [⟨(some 10), .faddr (.t 3) 2, none, 0⟩,
   ⟨(some 11), .load false 1 (.t 10), none, 1⟩,
   ⟨(some 12), .load true 7 (.t 4), none, 0⟩,
   ⟨(some 13), .call (.f 49) [.t 11, .t 12], none, 7⟩,
   ⟨(some 9), .mv (.t 13), none, 15⟩,
   ⟨(some 14), .extract (.t 9) 0, none, 31⟩,
   ⟨(some 15), .extract (.t 9) 1, none, 31⟩,
   ⟨(some 7), .mv (.t 14), none, 63⟩,
   ⟨(some 8), .mv (.t 15), none, 255⟩] false)
 (.seq (.reg [⟨(some 16), .mv (.t 8), none, 0⟩,
   ⟨(some 17), .bin .eql (.t 16) (.c (.pv (.int .i64 (0)))), none, 1⟩,
   ⟨(some 18), .mv (.t 17), none, 3⟩,
   ⟨(some 19), .mv (.t 7), (some (18, true)), 7⟩,
   ⟨(some 20), .mv (.t 2), (some (18, true)), 7⟩,
   ⟨(some 21), .bin .eql (.t 19) (.t 20), (some (18, true)), 31⟩,
   ⟨(some 22), .pick (.t 18) (.t 21) (.c (.pv (.bool false))), none, 63⟩,
   ⟨(some 6), .mv (.t 22), none, 127⟩] false)
 (.ret)))⟩
def c25 : RFn := ⟨3, 30, [.tmp 6],
 .seq (.reg [⟨(some 6), .mv (.c (.pv (.bool false))), none, 0⟩] false)
 (.seq (.reg [⟨(some 10), .mv (.t 0), none, 0⟩,
   ⟨(some 11), .mv (.t 2), none, 0⟩,
   ⟨(some 12), .call (.f 23) [.t 10, .t 11], none, 3⟩,
   ⟨(some 9), .mv (.t 12), none, 7⟩,
   ⟨(some 13), .extract (.t 9) 0, none, 15⟩,
   ⟨(some 14), .extract (.t 9) 1, none, 15⟩,
   ⟨(some 7), .alloc [.emp 7, .emp 7, .emp 7, .emp 3, .pv (.int .i64 (0)), .pv (.int .i64 (0)), .pv (.int .i64 (0)), .pv (.int .i64 (0)), .pv (.int .i64 (0)), .pv (.int .i64 (0)), .pv (.int .i64 (0)), .emp 7, .pv (.int .i64 (0)), .pv (.int .i64 (0)), .pv (.int .i64 (0)), .pv (.int .i64 (0)), .pv (.int .i64 (0)), .pv (.int .i64 (0)), .pv (.int .i64 (0)), .pv (.int .i64 (0)), .pv (.int .i64 (0)), .pv (.int .i64 (0)), .pv (.int .i64 (0)), .pv (.int .i64 (0)), .pv (.int .i64 (0)), .pv (.int .i64 (0)), .pv (.int .i64 (0)), .pv (.int .i64 (0)), .pv (.int .i64 (0)), .pv (.int .i64 (0)), .pv (.int .i64 (0)), .pv (.int .i64 (0)), .pv (.bool false), .pv (.bool false), .emp 47, .pv (.int .i64 (0)), .pv (.int .i64 (0)), .pv (.int .i64 (0)), .pv (.int .i64 (0)), .pv (.int .i64 (0)), .pv (.int .i64 (0)), .pv (.int .i64 (0)), .pv (.int .i64 (0)), .emp 1, .pv (.int .i64 (0)), .pv (.int .i64 (0)), .emp 2, .pv (.int .i64 (0)), .pv (.bool false), .pv (.int .i64 (0)), .pv (.str []), .pv (.int .i64 (0)), .pv (.int .i64 (0)), .pv (.int .i64 (0)), .pv (.int .i64 (0)), .pv (.int .i64 (0)), .pv (.int .i64 (0)), .pv (.int .i64 (0)), .pv (.int .i64 (0)), .pv (.int .i64 (0)), .pv (.int .i64 (0)), .pv (.int .i64 (0)), .emp 57, .emp 47, .emp 3, .pv (.str []), .pv (.int .i64 (0))], none, 0⟩,
   ⟨none, .store 67 (.t 7) (.t 13), none, 95⟩,
   ⟨(some 8), .mv (.t 14), none, 255⟩] false)
 (.seq (.reg [⟨(some 15), .mv (.t 8), none, 0⟩,
   ⟨(some 16), .mv (.t 1), none, 0⟩,
   ⟨(some 17), .bin .eql (.t 15) (.t 16), none, 3⟩,
   ⟨(some 18), .mv (.t 17), none, 7⟩,
   ⟨(some 19), .faddr (.t 7) 0, (some (18, true)), 15⟩,
   ⟨(some 20), .load false 1 (.t 19), (some (18, true)), 31⟩,
   ⟨(some 21), .mv (.t 2), (some (18, true)), 15⟩,
   ⟨(some 22), .call (.f 12) [.t 20, .t 21], (some (18, true)), 127⟩,
   ⟨(some 23), .pick (.t 18) (.t 22) (.c (.pv (.bool false))), none, 255⟩,
   ⟨(some 24), .mv (.t 23), none, 511⟩,
   ⟨(some 25), .faddr (.t 7) 2, (some (24, true)), 1023⟩,
   ⟨(some 26), .load false 1 (.t 25), (some (24, true)), 2047⟩,
   ⟨(some 27), .call (.f 26) [], (some (24, true)), 1023⟩,
   ⟨(some 28), .call (.f 50) [.t 26, .t 27], (some (24, true)), 8191⟩,
   ⟨(some 29), .pick (.t 24) (.t 28) (.c (.pv (.bool false))), none, 16383⟩,
   ⟨(some 6), .mv (.t 29), none, 32767⟩] true)
 (.ret)))⟩
def c26 : RFn := ⟨0, 13, [.tmp 0],
 .seq (.reg [⟨(some 0), .mv (.c (.emp 7)), none, 0⟩] false)
 (.seq (.reg [⟨(some 1), .build [.pv (.int .i64 (0)), .pv (.str []), .emp 7, .emp 7, .emp 7, .pv (.int .i64 (0)), .pv (.int .i64 (0))] [(0, 1, .c (.pv (.int .i64 (1)))), (1, 1, .c (.pv (.str [97, 98, 99, 100, 101, 102])))], none, 0⟩,
   ⟨(some 2), .call (.f 19) [.c (.pv (.int .i64 (5)))], none, 0⟩,
   ⟨(some 3), .call (.f 19) [.c (.pv (.int .i64 (6)))], none, 2⟩,
   ⟨(some 4), .bsl 7 2 [.pv (.int .i64 (0)), .pv (.bool false), .pv (.int .i64 (0)), .pv (.str []), .pv (.int .i64 (0)), .pv (.int .i64 (0)), .pv (.int .i64 (0))] [(0, .t 2), (1, .t 3)], none, 6⟩,
   ⟨(some 5), .build [.pv (.int .i64 (0)), .pv (.str []), .emp 7, .emp 7, .emp 7, .pv (.int .i64 (0)), .pv (.int .i64 (0))] [(0, 1, .c (.pv (.int .i64 (2)))), (2, 1, .t 4)], none, 14⟩,
   ⟨(some 6), .call (.f 19) [.c (.pv (.int .i64 (7)))], none, 6⟩,
   ⟨(some 7), .call (.f 19) [.c (.pv (.int .i64 (8)))], none, 38⟩,
   ⟨(some 8), .call (.f 19) [.c (.pv (.int .i64 (9)))], none, 102⟩,
   ⟨(some 9), .bsl 7 3 [.pv (.int .i64 (0)), .pv (.bool false), .pv (.int .i64 (0)), .pv (.str []), .pv (.int .i64 (0)), .pv (.int .i64 (0)), .pv (.int .i64 (0))] [(0, .t 6), (1, .t 7), (2, .t 8)], none, 230⟩,
   ⟨(some 10), .build [.pv (.int .i64 (0)), .pv (.str []), .emp 7, .emp 7, .emp 7, .pv (.int .i64 (0)), .pv (.int .i64 (0))] [(0, 1, .c (.pv (.int .i64 (2)))), (2, 1, .t 9)], none, 486⟩,
   ⟨(some 11), .build [.pv (.int .i64 (0)), .pv (.str []), .emp 7, .emp 7, .emp 7, .pv (.int .i64 (0)), .pv (.int .i64 (0))] [(0, 1, .c (.pv (.int .i64 (1)))), (1, 1, .c (.pv (.str [88, 89])))], none, 0⟩,
   ⟨(some 12), .bsl 7 4 [.pv (.int .i64 (0)), .pv (.str []), .emp 7, .emp 7, .emp 7, .pv (.int .i64 (0)), .pv (.int .i64 (0))] [(0, .t 1), (1, .t 5), (2, .t 10), (3, .t 11)], none, 2047⟩,
   ⟨(some 0), .mv (.t 12), none, 4095⟩] false)
 (.ret))⟩
def c27 : RFn := ⟨2, 26, [.cell 4 true 67, .tmp 5],
 .seq (.reg [⟨(some 2), .box 67 (.t 0), none, 0⟩,
   ⟨(some 4), .alloc [.emp 7, .emp 7, .emp 7, .emp 3, .pv (.int .i64 (0)), .pv (.int .i64 (0)), .pv (.int .i64 (0)), .pv (.int .i64 (0)), .pv (.int .i64 (0)), .pv (.int .i64 (0)), .pv (.int .i64 (0)), .emp 7, .pv (.int .i64 (0)), .pv (.int .i64 (0)), .pv (.int .i64 (0)), .pv (.int .i64 (0)), .pv (.int .i64 (0)), .pv (.int .i64 (0)), .pv (.int .i64 (0)), .pv (.int .i64 (0)), .pv (.int .i64 (0)), .pv (.int .i64 (0)), .pv (.int .i64 (0)), .pv (.int .i64 (0)), .pv (.int .i64 (0)), .pv (.int .i64 (0)), .pv (.int .i64 (0)), .pv (.int .i64 (0)), .pv (.int .i64 (0)), .pv (.int .i64 (0)), .pv (.int .i64 (0)), .pv (.int .i64 (0)), .pv (.bool false), .pv (.bool false), .emp 47, .pv (.int .i64 (0)), .pv (.int .i64 (0)), .pv (.int .i64 (0)), .pv (.int .i64 (0)), .pv (.int .i64 (0)), .pv (.int .i64 (0)), .pv (.int .i64 (0)), .pv (.int .i64 (0)), .emp 1, .pv (.int .i64 (0)), .pv (.int .i64 (0)), .emp 2, .pv (.int .i64 (0)), .pv (.bool false), .pv (.int .i64 (0)), .pv (.str []), .pv (.int .i64 (0)), .pv (.int .i64 (0)), .pv (.int .i64 (0)), .pv (.int .i64 (0)), .pv (.int .i64 (0)), .pv (.int .i64 (0)), .pv (.int .i64 (0)), .pv (.int .i64 (0)), .pv (.int .i64 (0)), .pv (.int .i64 (0)), .pv (.int .i64 (0)), .emp 57, .emp 47, .emp 3, .pv (.str []), .pv (.int .i64 (0))], none, 0⟩,
   ⟨(some 5), .mv (.c (.pv (.int .i64 (0)))), none, 0⟩] false)
 (.seq (.reg [⟨(some 9), .mkmap, none, 0⟩,
   ⟨none, .insert (.t 9) (.c (.pv (.str [115, 116, 114, 105, 110, 103]))) (.f 51), none, 1⟩,
   ⟨none, .insert (.t 9) (.c (.pv (.str [97, 114, 114, 97, 121]))) (.f 52), none, 1⟩,
   ⟨none, .insert (.t 9) (.c (.pv (.str [112, 97, 99, 107, 101, 100, 97, 114, 114, 97, 121]))) (.f 53), none, 1⟩,
   ⟨none, .insert (.t 9) (.c (.pv (.str [108, 101, 110, 103, 116, 104]))) (.f 54), none, 1⟩,
   ⟨none, .insert (.t 9) (.c (.pv (.str [103, 101, 116]))) (.f 55), none, 1⟩,
   ⟨none, .insert (.t 9) (.c (.pv (.str [112, 117, 116]))) (.f 56), none, 1⟩,
   ⟨none, .insert (.t 9) (.c (.pv (.str [103, 101, 116, 105, 110, 116, 101, 114, 118, 97, 108]))) (.f 57), none, 1⟩,
   ⟨none, .insert (.t 9) (.c (.pv (.str [112, 117, 116, 105, 110, 116, 101, 114, 118, 97, 108]))) (.f 58), none, 1⟩,
   ⟨none, .insert (.t 9) (.c (.pv (.str [97, 108, 111, 97, 100]))) (.f 59), none, 1⟩,
   ⟨none, .insert (.t 9) (.c (.pv (.str [97, 115, 116, 111, 114, 101]))) (.f 60), none, 1⟩,
   ⟨none, .insert (.t 9) (.c (.pv (.str [99, 111, 112, 121]))) (.f 61), none, 1⟩,
   ⟨none, .insert (.t 9) (.c (.pv (.str [115, 101, 97, 114, 99, 104]))) (.f 62), none, 1⟩,
   ⟨none, .insert (.t 9) (.c (.pv (.str [97, 110, 99, 104, 111, 114, 115, 101, 97, 114, 99, 104]))) (.f 63), none, 1⟩,
   ⟨none, .insert (.t 9) (.c (.pv (.str [91]))) (.f 64), none, 1⟩,
   ⟨none, .insert (.t 9) (.c (.pv (.str [93]))) (.f 65), none, 1⟩,
   ⟨(some 10), .mv (.t 9), none, 65535⟩,
   ⟨(some 6), .mv (.t 10), none, 131071⟩] false)
 (.seq (.reg [⟨(some 12), .mv (.t 6), none, 0⟩,
   ⟨(some 13), .mv (.t 1), none, 0⟩,
   ⟨(some 14), .lookup (.t 12) (.t 13) (.pv .nilFunc), none, 3⟩,
   ⟨(some 11), .mv (.t 14), none, 7⟩,
   ⟨(some 15), .extract (.t 11) 0, none, 15⟩,
   ⟨(some 16), .extract (.t 11) 1, none, 15⟩,
   ⟨(some 7), .mv (.t 15), none, 31⟩,
   ⟨(some 8), .mv (.t 16), none, 127⟩] false)
 (.seq (.seq (.reg [⟨(some 17), .mv (.t 8), none, 0⟩,
   ⟨(some 18), .not (.t 17), none, 1⟩] false)
 (.cond (.t 18)
  (.seq (.reg [⟨(some 19), .load true 67 (.t 2), none, 0⟩,
    ⟨none, .store 67 (.t 4) (.t 19), none, 1⟩,
    ⟨(some 5), .mv (.c (.pv (.int .i64 (24)))), none, 3⟩] false)
  (.ret))
  (.skip)))
 (.seq (.reg [⟨(some 20), .mv (.t 7), none, 0⟩,
   ⟨(some 21), .load true 67 (.t 2), none, 0⟩,
   ⟨(some 22), .build [.emp 7, .emp 7, .emp 7, .emp 3, .pv (.int .i64 (0)), .pv (.int .i64 (0)), .pv (.int .i64 (0)), .pv (.int .i64 (0)), .pv (.int .i64 (0)), .pv (.int .i64 (0)), .pv (.int .i64 (0)), .emp 7, .pv (.int .i64 (0)), .pv (.int .i64 (0)), .pv (.int .i64 (0)), .pv (.int .i64 (0)), .pv (.int .i64 (0)), .pv (.int .i64 (0)), .pv (.int .i64 (0)), .pv (.int .i64 (0)), .pv (.int .i64 (0)), .pv (.int .i64 (0)), .pv (.int .i64 (0)), .pv (.int .i64 (0)), .pv (.int .i64 (0)), .pv (.int .i64 (0)), .pv (.int .i64 (0)), .pv (.int .i64 (0)), .pv (.int .i64 (0)), .pv (.int .i64 (0)), .pv (.int .i64 (0)), .pv (.int .i64 (0)), .pv (.bool false), .pv (.bool false), .emp 47, .pv (.int .i64 (0)), .pv (.int .i64 (0)), .pv (.int .i64 (0)), .pv (.int .i64 (0)), .pv (.int .i64 (0)), .pv (.int .i64 (0)), .pv (.int .i64 (0)), .pv (.int .i64 (0)), .emp 1, .pv (.int .i64 (0)), .pv (.int .i64 (0)), .emp 2, .pv (.int .i64 (0)), .pv (.bool false), .pv (.int .i64 (0)), .pv (.str []), .pv (.int .i64 (0)), .pv (.int .i64 (0)), .pv (.int .i64 (0)), .pv (.int .i64 (0)), .pv (.int .i64 (0)), .pv (.int .i64 (0)), .pv (.int .i64 (0)), .pv (.int .i64 (0)), .pv (.int .i64 (0)), .pv (.int .i64 (0)), .pv (.int .i64 (0)), .emp 57, .emp 47, .emp 3, .pv (.str []), .pv (.int .i64 (0))] [(0, 67, .t 21)], none, 2⟩,
   ⟨(some 23), .call (.t 20) [.t 22], none, 7⟩,
   ⟨(some 24), .extract (.t 23) 0, none, 15⟩,
   ⟨(some 25), .extract (.t 23) 1, none, 15⟩,
   ⟨none, .store 67 (.t 4) (.t 24), none, 63⟩,
   ⟨(some 5), .mv (.t 25), none, 127⟩] false)
 (.ret)))))⟩
def c28 : RFn := ⟨2, 149, [.tmp 4],
 .seq (.reg [⟨(some 2), .box 67 (.t 0), none, 0⟩,
   ⟨(some 3), .box 67 (.t 1), none, 0⟩,
   ⟨(some 4), .mv (.c (.pv (.bool false))), none, 0⟩] false)
 (.seq (.seq (.reg [⟨(some 9), .faddr (.t 2) 0, none, 0⟩,
   ⟨(some 10), .load false 1 (.t 9), none, 1⟩,
   ⟨(some 11), .faddr (.t 3) 0, none, 0⟩,
   ⟨(some 12), .load false 1 (.t 11), none, 4⟩,
   ⟨(some 13), .call (.f 66) [.t 10, .t 12], none, 15⟩,
   ⟨(some 14), .not (.t 13), none, 31⟩,
   ⟨(some 15), .mv (.t 14), none, 63⟩,
   ⟨(some 16), .faddr (.t 2) 1, (some (15, false)), 127⟩,
   ⟨(some 17), .load false 1 (.t 16), (some (15, false)), 255⟩,
   ⟨(some 18), .faddr (.t 3) 1, (some (15, false)), 127⟩,
   ⟨(some 19), .load false 1 (.t 18), (some (15, false)), 639⟩,
   ⟨(some 20), .call (.f 66) [.t 17, .t 19], (some (15, false)), 2047⟩,
   ⟨(some 21), .not (.t 20), (some (15, false)), 4095⟩,
   ⟨(some 22), .pick (.t 15) (.c (.pv (.bool true))) (.t 21), none, 8191⟩,
   ⟨(some 23), .mv (.t 22), none, 16383⟩,
   ⟨(some 24), .faddr (.t 2) 2, (some (23, false)), 32767⟩,
   ⟨(some 25), .load false 1 (.t 24), (some (23, false)), 65535⟩,
   ⟨(some 26), .faddr (.t 3) 2, (some (23, false)), 32767⟩,
   ⟨(some 27), .load false 1 (.t 26), (some (23, false)), 163839⟩,
   ⟨(some 28), .call (.f 50) [.t 25, .t 27], (some (23, false)), 524287⟩,
   ⟨(some 29), .not (.t 28), (some (23, false)), 1048575⟩,
   ⟨(some 30), .pick (.t 23) (.c (.pv (.bool true))) (.t 29), none, 2097151⟩,
   ⟨(some 31), .mv (.t 30), none, 4194303⟩,
   ⟨(some 32), .faddr (.t 2) 3, (some (31, false)), 8388607⟩,
   ⟨(some 33), .load false 1 (.t 32), (some (31, false)), 16777215⟩,
   ⟨(some 34), .slen (.t 33), (some (31, false)), 33554431⟩,
   ⟨(some 35), .faddr (.t 3) 3, (some (31, false)), 8388607⟩,
   ⟨(some 36), .load false 1 (.t 35), (some (31, false)), 75497471⟩,
   ⟨(some 37), .slen (.t 36), (some (31, false)), 209715199⟩,
   ⟨(some 38), .bin .neq (.t 34) (.t 37), (some (31, false)), 536870911⟩,
   ⟨(some 39), .pick (.t 31) (.c (.pv (.bool true))) (.t 38), none, 1073741823⟩,
   ⟨(some 40), .mv (.t 39), none, 2147483647⟩,
   ⟨(some 41), .faddr (.t 2) 4, (some (40, false)), 4294967295⟩,
   ⟨(some 42), .load false 1 (.t 41), (some (40, false)), 8589934591⟩,
   ⟨(some 43), .faddr (.t 3) 4, (some (40, false)), 4294967295⟩,
   ⟨(some 44), .load false 1 (.t 43), (some (40, false)), 21474836479⟩,
   ⟨(some 45), .bin .neq (.t 42) (.t 44), (some (40, false)), 68719476735⟩,
   ⟨(some 46), .pick (.t 40) (.c (.pv (.bool true))) (.t 45), none, 137438953471⟩,
   ⟨(some 47), .mv (.t 46), none, 274877906943⟩,
   ⟨(some 48), .faddr (.t 2) 62, (some (47, false)), 549755813887⟩,
   ⟨(some 49), .load false 1 (.t 48), (some (47, false)), 1099511627775⟩,
   ⟨(some 50), .slen (.t 49), (some (47, false)), 2199023255551⟩,
   ⟨(some 51), .faddr (.t 3) 62, (some (47, false)), 549755813887⟩,
   ⟨(some 52), .load false 1 (.t 51), (some (47, false)), 4947802324991⟩,
   ⟨(some 53), .slen (.t 52), (some (47, false)), 13743895347199⟩,
   ⟨(some 54), .bin .neq (.t 50) (.t 53), (some (47, false)), 35184372088831⟩,
   ⟨(some 55), .pick (.t 47) (.c (.pv (.bool true))) (.t 54), none, 70368744177663⟩,
   ⟨(some 56), .mv (.t 55), none, 140737488355327⟩,
   ⟨(some 57), .faddr (.t 2) 65, (some (56, false)), 281474976710655⟩,
   ⟨(some 58), .load false 1 (.t 57), (some (56, false)), 562949953421311⟩,
   ⟨(some 59), .faddr (.t 3) 65, (some (56, false)), 281474976710655⟩,
   ⟨(some 60), .load false 1 (.t 59), (some (56, false)), 1407374883553279⟩,
   ⟨(some 61), .bin .neq (.t 58) (.t 60), (some (56, false)), 4503599627370495⟩,
   ⟨(some 62), .pick (.t 56) (.c (.pv (.bool true))) (.t 61), none, 9007199254740991⟩,
   ⟨(some 63), .mv (.t 62), none, 18014398509481983⟩,
   ⟨(some 64), .faddr (.t 2) 66, (some (63, false)), 36028797018963967⟩,
   ⟨(some 65), .load false 1 (.t 64), (some (63, false)), 72057594037927935⟩,
   ⟨(some 66), .faddr (.t 3) 66, (some (63, false)), 36028797018963967⟩,
   ⟨(some 67), .load false 1 (.t 66), (some (63, false)), 180143985094819839⟩,
   ⟨(some 68), .bin .neq (.t 65) (.t 67), (some (63, false)), 576460752303423487⟩,
   ⟨(some 69), .pick (.t 63) (.c (.pv (.bool true))) (.t 68), none, 1152921504606846975⟩] false)
 (.cond (.t 69)
  (.seq (.reg [⟨(some 4), .mv (.c (.pv (.bool false))), none, 0⟩] false)
  (.ret))
  (.skip)))
 (.seq (.seq (.reg [⟨(some 5), .mv (.c (.pv (.int .i64 (0)))), none, 0⟩] false)
 (.block 0
  (.loop [2, 3, 5]
   (.seq (.seq (.reg [⟨(some 70), .mv (.t 5), none, 0⟩,
     ⟨(some 71), .faddr (.t 2) 3, none, 0⟩,
     ⟨(some 72), .load false 1 (.t 71), none, 2⟩,
     ⟨(some 73), .slen (.t 72), none, 6⟩,
     ⟨(some 74), .bin .lss (.t 70) (.t 73), none, 15⟩] false)
   (.cond (.t 74)
    (.skip)
    (.exit 0)))
   (.seq (.block 1
    (.seq (.reg [⟨(some 77), .faddr (.t 2) 3, none, 0⟩,
      ⟨(some 78), .load false 1 (.t 77), none, 1⟩,
      ⟨(some 79), .mv (.t 5), none, 0⟩,
      ⟨(some 80), .iaddr 3 (.t 78) (.t 79), none, 7⟩,
      ⟨(some 81), .load true 3 (.t 80), none, 15⟩,
      ⟨(some 82), .faddr (.t 3) 3, none, 0⟩,
      ⟨(some 83), .load false 1 (.t 82), none, 32⟩,
      ⟨(some 84), .mv (.t 5), none, 0⟩,
      ⟨(some 85), .iaddr 3 (.t 83) (.t 84), none, 224⟩,
      ⟨(some 86), .load true 3 (.t 85), none, 480⟩,
      ⟨(some 6), .alloc [.pv (.int .i64 (0)), .emp 7, .pv (.int .i64 (0))], none, 0⟩,
      ⟨(some 7), .alloc [.pv (.int .i64 (0)), .emp 7, .pv (.int .i64 (0))], none, 0⟩,
      ⟨none, .store 3 (.t 6) (.t 81), none, 3103⟩,
      ⟨none, .store 3 (.t 7) (.t 86), none, 8191⟩] true)
    (.seq (.reg [⟨(some 87), .faddr (.t 6) 0, none, 0⟩,
      ⟨(some 88), .load false 1 (.t 87), none, 1⟩,
      ⟨(some 89), .faddr (.t 7) 0, none, 0⟩,
      ⟨(some 90), .load false 1 (.t 89), none, 4⟩,
      ⟨(some 91), .bin .neq (.t 88) (.t 90), none, 15⟩,
      ⟨(some 92), .mv (.t 91), none, 31⟩,
      ⟨(some 93), .faddr (.t 6) 2, (some (92, false)), 63⟩,
      ⟨(some 94), .load false 1 (.t 93), (some (92, false)), 127⟩,
      ⟨(some 95), .faddr (.t 7) 2, (some (92, false)), 63⟩,
      ⟨(some 96), .load false 1 (.t 95), (some (92, false)), 319⟩,
      ⟨(some 97), .bin .neq (.t 94) (.t 96), (some (92, false)), 1023⟩,
      ⟨(some 98), .pick (.t 92) (.c (.pv (.bool true))) (.t 97), none, 2047⟩,
      ⟨(some 99), .mv (.t 98), none, 4095⟩,
      ⟨(some 100), .faddr (.t 6) 1, (some (99, false)), 8191⟩,
      ⟨(some 101), .load false 1 (.t 100), (some (99, false)), 16383⟩,
      ⟨(some 102), .faddr (.t 7) 1, (some (99, false)), 8191⟩,
      ⟨(some 103), .load false 1 (.t 102), (some (99, false)), 40959⟩,
      ⟨(some 104), .call (.f 50) [.t 101, .t 103], (some (99, false)), 131071⟩,
      ⟨(some 105), .not (.t 104), (some (99, false)), 262143⟩,
      ⟨(some 106), .pick (.t 99) (.c (.pv (.bool true))) (.t 105), none, 524287⟩] false)
    (.cond (.t 106)
     (.seq (.reg [⟨(some 4), .mv (.c (.pv (.bool false))), none, 0⟩] false)
     (.ret))
     (.skip)))))
   (.reg [⟨(some 75), .mv (.t 5), none, 0⟩,
     ⟨(some 76), .bin .add (.t 75) (.c (.pv (.int .i64 (1)))), none, 1⟩,
     ⟨(some 5), .mv (.t 76), none, 3⟩] false))))))
 (.seq (.seq (.reg [⟨(some 8), .mv (.c (.pv (.int .i64 (0)))), none, 0⟩] false)
 (.block 2
  (.loop [2, 3, 8]
   (.seq (.seq (.reg [⟨(some 107), .mv (.t 8), none, 0⟩,
     ⟨(some 108), .faddr (.t 2) 62, none, 0⟩,
     ⟨(some 109), .load false 1 (.t 108), none, 2⟩,
     ⟨(some 110), .slen (.t 109), none, 6⟩,
     ⟨(some 111), .bin .lss (.t 107) (.t 110), none, 15⟩] false)
   (.cond (.t 111)
    (.skip)
    (.exit 2)))
   (.seq (.block 3
    (.seq (.reg [⟨(some 114), .faddr (.t 2) 62, none, 0⟩,
      ⟨(some 115), .load false 1 (.t 114), none, 1⟩,
      ⟨(some 116), .mv (.t 8), none, 0⟩,
      ⟨(some 117), .iaddr 57 (.t 115) (.t 116), none, 7⟩,
      ⟨(some 118), .load true 57 (.t 117), none, 15⟩,
      ⟨(some 119), .faddr (.t 3) 62, none, 0⟩,
      ⟨(some 120), .load false 1 (.t 119), none, 32⟩,
      ⟨(some 121), .mv (.t 8), none, 0⟩,
      ⟨(some 122), .iaddr 57 (.t 120) (.t 121), none, 224⟩,
      ⟨(some 123), .load true 57 (.t 122), none, 480⟩,
      ⟨(some 124), .call (.f 67) [.t 118, .t 123], none, 1023⟩,
      ⟨(some 125), .not (.t 124), none, 2047⟩] true)
    (.cond (.t 125)
     (.seq (.reg [⟨(some 4), .mv (.c (.pv (.bool false))), none, 0⟩] false)
     (.ret))
     (.skip))))
   (.reg [⟨(some 112), .mv (.t 8), none, 0⟩,
     ⟨(some 113), .bin .add (.t 112) (.c (.pv (.int .i64 (1)))), none, 1⟩,
     ⟨(some 8), .mv (.t 113), none, 3⟩] false))))))
 (.seq (.reg [⟨(some 126), .faddr (.t 2) 5, none, 0⟩,
   ⟨(some 127), .load true 57 (.t 126), none, 1⟩,
   ⟨(some 128), .faddr (.t 3) 5, none, 0⟩,
   ⟨(some 129), .load true 57 (.t 128), none, 4⟩,
   ⟨(some 130), .call (.f 67) [.t 127, .t 129], none, 15⟩,
   ⟨(some 131), .mv (.t 130), none, 31⟩,
   ⟨(some 132), .faddr (.t 2) 63, (some (131, true)), 63⟩,
   ⟨(some 133), .load false 1 (.t 132), (some (131, true)), 127⟩,
   ⟨(some 134), .slen (.t 133), (some (131, true)), 255⟩,
   ⟨(some 135), .faddr (.t 3) 63, (some (131, true)), 63⟩,
   ⟨(some 136), .load false 1 (.t 135), (some (131, true)), 575⟩,
   ⟨(some 137), .slen (.t 136), (some (131, true)), 1599⟩,
   ⟨(some 138), .bin .eql (.t 134) (.t 137), (some (131, true)), 4095⟩,
   ⟨(some 139), .pick (.t 131) (.t 138) (.c (.pv (.bool false))), none, 8191⟩,
   ⟨(some 140), .mv (.t 139), none, 16383⟩,
   ⟨(some 141), .faddr (.t 2) 64, (some (140, true)), 32767⟩,
   ⟨(some 142), .load false 1 (.t 141), (some (140, true)), 65535⟩,
   ⟨(some 143), .slen (.t 142), (some (140, true)), 131071⟩,
   ⟨(some 144), .faddr (.t 3) 64, (some (140, true)), 32767⟩,
   ⟨(some 145), .load false 1 (.t 144), (some (140, true)), 294911⟩,
   ⟨(some 146), .slen (.t 145), (some (140, true)), 819199⟩,
   ⟨(some 147), .bin .eql (.t 143) (.t 146), (some (140, true)), 2097151⟩,
   ⟨(some 148), .pick (.t 140) (.t 147) (.c (.pv (.bool false))), none, 4194303⟩,
   ⟨(some 4), .mv (.t 148), none, 8388607⟩] false)
 (.ret)))))⟩
def c48 : RFn := ⟨2, 34, [.tmp 4, .tmp 5],
 .seq (.reg [⟨(some 3), .box 7 (.t 1), none, 0⟩,
   ⟨(some 4), .mv (.c (.emp 7)), none, 0⟩,
   ⟨(some 5), .mv (.c (.pv (.int .i64 (0)))), none, 2⟩] false)
 (.seq (.reg [⟨(some 9), .mv (.t 0), none, 0⟩,
   ⟨(some 10), .load true 7 (.t 3), none, 0⟩,
   ⟨(some 11), .bsl 1 2 [.pv (.int .i64 (0))] [(0, .c (.pv (.int .i64 (7)))), (1, .c (.pv (.int .i64 (8))))], none, 0⟩,
   ⟨(some 12), .call (.f 86) [.t 9, .t 10, .t 11], none, 7⟩,
   ⟨(some 8), .mv (.t 12), none, 15⟩,
   ⟨(some 13), .extract (.t 8) 0, none, 31⟩,
   ⟨(some 14), .extract (.t 8) 1, none, 31⟩,
   ⟨(some 6), .alloc [.emp 7, .pv (.int .i64 (0)), .pv (.bool false), .pv (.int .i64 (0)), .pv (.str []), .pv (.int .i64 (0)), .pv (.int .i64 (0)), .pv (.int .i64 (0))], none, 0⟩,
   ⟨none, .store 8 (.t 6) (.t 13), none, 191⟩,
   ⟨(some 7), .mv (.t 14), none, 511⟩] false)
 (.seq (.seq (.reg [⟨(some 15), .mv (.t 7), none, 0⟩,
   ⟨(some 16), .bin .neq (.t 15) (.c (.pv (.int .i64 (0)))), none, 1⟩] false)
 (.cond (.t 16)
  (.seq (.reg [⟨(some 17), .mv (.t 7), none, 0⟩,
    ⟨(some 4), .mv (.c (.emp 7)), none, 0⟩,
    ⟨(some 5), .mv (.t 17), none, 3⟩] false)
  (.ret))
  (.skip)))
 (.seq (.reg [⟨(some 18), .load true 8 (.t 6), none, 0⟩,
   ⟨(some 19), .call (.f 87) [.t 18], none, 1⟩,
   ⟨(some 20), .field false 2 1 (.t 19), none, 3⟩,
   ⟨(some 21), .faddr (.t 3) 5, none, 0⟩,
   ⟨(some 22), .load false 1 (.t 21), none, 8⟩,
   ⟨(some 23), .faddr (.t 3) 5, none, 0⟩,
   ⟨(some 24), .load false 1 (.t 23), none, 32⟩,
   ⟨(some 25), .faddr (.t 3) 6, none, 0⟩,
   ⟨(some 26), .load false 1 (.t 25), none, 128⟩,
   ⟨(some 27), .bin .add (.t 24) (.t 26), none, 480⟩,
   ⟨(some 28), .faddr (.t 3) 5, none, 0⟩,
   ⟨(some 29), .load false 1 (.t 28), none, 1024⟩,
   ⟨(some 30), .faddr (.t 3) 6, none, 0⟩,
   ⟨(some 31), .load false 1 (.t 30), none, 4096⟩,
   ⟨(some 32), .bin .add (.t 29) (.t 31), none, 15360⟩,
   ⟨(some 33), .slice 7 (.t 20) (some (.t 22)) (some (.t 27)) (some (.t 32)), none, 32767⟩,
   ⟨(some 4), .mv (.t 33), none, 65535⟩,
   ⟨(some 5), .mv (.c (.pv (.int .i64 (0)))), none, 131071⟩] true)
 (.ret))))⟩
def c49 : RFn := ⟨2, 29, [.tmp 4, .tmp 5],
 .seq (.reg [⟨(some 3), .box 7 (.t 1), none, 0⟩,
   ⟨(some 4), .mv (.c (.pv (.str []))), none, 0⟩,
   ⟨(some 5), .mv (.c (.pv (.int .i64 (0)))), none, 2⟩] false)
 (.seq (.reg [⟨(some 9), .mv (.t 0), none, 0⟩,
   ⟨(some 10), .load true 7 (.t 3), none, 0⟩,
   ⟨(some 11), .bsl 1 1 [.pv (.int .i64 (0))] [(0, .c (.pv (.int .i64 (6))))], none, 0⟩,
   ⟨(some 12), .call (.f 86) [.t 9, .t 10, .t 11], none, 7⟩,
   ⟨(some 8), .mv (.t 12), none, 15⟩,
   ⟨(some 13), .extract (.t 8) 0, none, 31⟩,
   ⟨(some 14), .extract (.t 8) 1, none, 31⟩,
   ⟨(some 6), .alloc [.emp 7, .pv (.int .i64 (0)), .pv (.bool false), .pv (.int .i64 (0)), .pv (.str []), .pv (.int .i64 (0)), .pv (.int .i64 (0)), .pv (.int .i64 (0))], none, 0⟩,
   ⟨none, .store 8 (.t 6) (.t 13), none, 191⟩,
   ⟨(some 7), .mv (.t 14), none, 511⟩] false)
 (.seq (.seq (.reg [⟨(some 15), .mv (.t 7), none, 0⟩,
   ⟨(some 16), .bin .neq (.t 15) (.c (.pv (.int .i64 (0)))), none, 1⟩] false)
 (.cond (.t 16)
  (.seq (.reg [⟨(some 17), .mv (.t 7), none, 0⟩,
    ⟨(some 4), .mv (.c (.pv (.str []))), none, 0⟩,
    ⟨(some 5), .mv (.t 17), none, 3⟩] false)
  (.ret))
  (.skip)))
 (.seq (.reg [⟨(some 18), .load true 8 (.t 6), none, 0⟩,
   ⟨(some 19), .call (.f 87) [.t 18], none, 1⟩,
   ⟨(some 20), .field false 1 1 (.t 19), none, 3⟩,
   ⟨(some 21), .faddr (.t 3) 5, none, 0⟩,
   ⟨(some 22), .load false 1 (.t 21), none, 8⟩,
   ⟨(some 23), .faddr (.t 3) 5, none, 0⟩,
   ⟨(some 24), .load false 1 (.t 23), none, 32⟩,
   ⟨(some 25), .faddr (.t 3) 6, none, 0⟩,
   ⟨(some 26), .load false 1 (.t 25), none, 128⟩,
   ⟨(some 27), .bin .add (.t 24) (.t 26), none, 480⟩,
   ⟨(some 28), .sslice (.t 20) (some (.t 22)) (some (.t 27)), none, 1023⟩,
   ⟨(some 4), .mv (.t 28), none, 2047⟩,
   ⟨(some 5), .mv (.c (.pv (.int .i64 (0)))), none, 4095⟩] true)
 (.ret))))⟩
def c50 : RFn := ⟨2, 27, [.tmp 4],
 .seq (.reg [⟨(some 4), .mv (.c (.pv (.bool false))), none, 0⟩] false)
 (.seq (.seq (.reg [⟨(some 6), .mv (.t 0), none, 0⟩,
   ⟨(some 7), .slen (.t 6), none, 1⟩,
   ⟨(some 8), .mv (.t 1), none, 0⟩,
   ⟨(some 9), .slen (.t 8), none, 4⟩,
   ⟨(some 10), .bin .neq (.t 7) (.t 9), none, 15⟩] false)
 (.cond (.t 10)
  (.seq (.reg [⟨(some 4), .mv (.c (.pv (.bool false))), none, 0⟩] false)
  (.ret))
  (.skip)))
 (.seq (.seq (.reg [⟨(some 5), .mv (.c (.pv (.int .i64 (0)))), none, 0⟩] false)
 (.block 0
  (.loop [0, 1, 5]
   (.seq (.seq (.reg [⟨(some 11), .mv (.t 5), none, 0⟩,
     ⟨(some 12), .mv (.t 0), none, 0⟩,
     ⟨(some 13), .slen (.t 12), none, 2⟩,
     ⟨(some 14), .bin .lss (.t 11) (.t 13), none, 7⟩] false)
   (.cond (.t 14)
    (.skip)
    (.exit 0)))
   (.seq (.block 1
    (.seq (.reg [⟨(some 17), .mv (.t 0), none, 0⟩,
      ⟨(some 18), .mv (.t 5), none, 0⟩,
      ⟨(some 19), .iaddr 7 (.t 17) (.t 18), none, 3⟩,
      ⟨(some 20), .load true 7 (.t 19), none, 7⟩,
      ⟨(some 21), .mv (.t 1), none, 0⟩,
      ⟨(some 22), .mv (.t 5), none, 0⟩,
      ⟨(some 23), .iaddr 7 (.t 21) (.t 22), none, 48⟩,
      ⟨(some 24), .load true 7 (.t 23), none, 112⟩,
      ⟨(some 25), .call (.f 88) [.t 20, .t 24], none, 255⟩,
      ⟨(some 26), .not (.t 25), none, 511⟩] true)
    (.cond (.t 26)
     (.seq (.reg [⟨(some 4), .mv (.c (.pv (.bool false))), none, 0⟩] false)
     (.ret))
     (.skip))))
   (.reg [⟨(some 15), .mv (.t 5), none, 0⟩,
     ⟨(some 16), .bin .add (.t 15) (.c (.pv (.int .i64 (1)))), none, 1⟩,
     ⟨(some 5), .mv (.t 16), none, 3⟩] false))))))
 (.seq (.reg [⟨(some 4), .mv (.c (.pv (.bool true))), none, 0⟩] false)
 (.ret))))⟩
def c51 : RFn := ⟨1, 25, [.cell 2 true 67, .tmp 3],
 .seq (.reg [⟨(some 1), .box 67 (.t 0), none, 0⟩,
   ⟨(some 2), .alloc [.emp 7, .emp 7, .emp 7, .emp 3, .pv (.int .i64 (0)), .pv (.int .i64 (0)), .pv (.int .i64 (0)), .pv (.int .i64 (0)), .pv (.int .i64 (0)), .pv (.int .i64 (0)), .pv (.int .i64 (0)), .emp 7, .pv (.int .i64 (0)), .pv (.int .i64 (0)), .pv (.int .i64 (0)), .pv (.int .i64 (0)), .pv (.int .i64 (0)), .pv (.int .i64 (0)), .pv (.int .i64 (0)), .pv (.int .i64 (0)), .pv (.int .i64 (0)), .pv (.int .i64 (0)), .pv (.int .i64 (0)), .pv (.int .i64 (0)), .pv (.int .i64 (0)), .pv (.int .i64 (0)), .pv (.int .i64 (0)), .pv (.int .i64 (0)), .pv (.int .i64 (0)), .pv (.int .i64 (0)), .pv (.int .i64 (0)), .pv (.int .i64 (0)), .pv (.bool false), .pv (.bool false), .emp 47, .pv (.int .i64 (0)), .pv (.int .i64 (0)), .pv (.int .i64 (0)), .pv (.int .i64 (0)), .pv (.int .i64 (0)), .pv (.int .i64 (0)), .pv (.int .i64 (0)), .pv (.int .i64 (0)), .emp 1, .pv (.int .i64 (0)), .pv (.int .i64 (0)), .emp 2, .pv (.int .i64 (0)), .pv (.bool false), .pv (.int .i64 (0)), .pv (.str []), .pv (.int .i64 (0)), .pv (.int .i64 (0)), .pv (.int .i64 (0)), .pv (.int .i64 (0)), .pv (.int .i64 (0)), .pv (.int .i64 (0)), .pv (.int .i64 (0)), .pv (.int .i64 (0)), .pv (.int .i64 (0)), .pv (.int .i64 (0)), .pv (.int .i64 (0)), .emp 57, .emp 47, .emp 3, .pv (.str []), .pv (.int .i64 (0))], none, 0⟩,
   ⟨(some 3), .mv (.c (.pv (.int .i64 (0)))), none, 0⟩] false)
 (.seq (.reg [⟨(some 7), .load true 67 (.t 1), none, 0⟩,
   ⟨(some 8), .call (.f 89) [.t 7, .c (.pv (.int .i64 (1000)))], none, 1⟩,
   ⟨(some 6), .mv (.t 8), none, 3⟩,
   ⟨(some 9), .extract (.t 6) 0, none, 7⟩,
   ⟨(some 10), .extract (.t 6) 1, none, 7⟩,
   ⟨(some 4), .mv (.t 9), none, 15⟩,
   ⟨(some 5), .mv (.t 10), none, 63⟩] false)
 (.seq (.seq (.reg [⟨(some 11), .mv (.t 5), none, 0⟩,
   ⟨(some 12), .bin .neq (.t 11) (.c (.pv (.int .i64 (0)))), none, 1⟩] false)
 (.cond (.t 12)
  (.seq (.reg [⟨(some 13), .faddr (.t 1) 0, none, 0⟩,
    ⟨(some 14), .load true 67 (.t 13), none, 1⟩,
    ⟨(some 15), .mv (.t 5), none, 0⟩,
    ⟨none, .store 67 (.t 2) (.t 14), none, 3⟩,
    ⟨(some 3), .mv (.t 15), none, 15⟩] false)
  (.ret))
  (.skip)))
 (.seq (.reg [⟨(some 16), .load true 67 (.t 1), none, 0⟩,
   ⟨(some 17), .mv (.t 4), none, 0⟩,
   ⟨(some 18), .build [.pv (.int .i64 (0)), .pv (.bool false), .pv (.int .i64 (0)), .pv (.str []), .pv (.int .i64 (0)), .pv (.int .i64 (0)), .pv (.int .i64 (0))] [(0, 1, .c (.pv (.int .i64 (6)))), (6, 1, .t 17)], none, 2⟩,
   ⟨(some 19), .mv (.t 4), none, 0⟩,
   ⟨(some 20), .mksl 1 1 [.int .u8 (0)] (.t 19), none, 8⟩,
   ⟨(some 21), .b2s (.t 20), none, 24⟩,
   ⟨(some 22), .call (.f 90) [.t 16, .c (.pv (.int .i64 (1))), .t 18, .t 21, .f 91], none, 63⟩,
   ⟨(some 23), .extract (.t 22) 0, none, 127⟩,
   ⟨(some 24), .extract (.t 22) 1, none, 127⟩,
   ⟨none, .store 67 (.t 2) (.t 23), none, 511⟩,
   ⟨(some 3), .mv (.t 24), none, 1023⟩] true)
 (.ret))))⟩
def c52 : RFn := ⟨1, 24, [.cell 2 true 67, .tmp 3],
 .seq (.reg [⟨(some 1), .box 67 (.t 0), none, 0⟩,
   ⟨(some 2), .alloc [.emp 7, .emp 7, .emp 7, .emp 3, .pv (.int .i64 (0)), .pv (.int .i64 (0)), .pv (.int .i64 (0)), .pv (.int .i64 (0)), .pv (.int .i64 (0)), .pv (.int .i64 (0)), .pv (.int .i64 (0)), .emp 7, .pv (.int .i64 (0)), .pv (.int .i64 (0)), .pv (.int .i64 (0)), .pv (.int .i64 (0)), .pv (.int .i64 (0)), .pv (.int .i64 (0)), .pv (.int .i64 (0)), .pv (.int .i64 (0)), .pv (.int .i64 (0)), .pv (.int .i64 (0)), .pv (.int .i64 (0)), .pv (.int .i64 (0)), .pv (.int .i64 (0)), .pv (.int .i64 (0)), .pv (.int .i64 (0)), .pv (.int .i64 (0)), .pv (.int .i64 (0)), .pv (.int .i64 (0)), .pv (.int .i64 (0)), .pv (.int .i64 (0)), .pv (.bool false), .pv (.bool false), .emp 47, .pv (.int .i64 (0)), .pv (.int .i64 (0)), .pv (.int .i64 (0)), .pv (.int .i64 (0)), .pv (.int .i64 (0)), .pv (.int .i64 (0)), .pv (.int .i64 (0)), .pv (.int .i64 (0)), .emp 1, .pv (.int .i64 (0)), .pv (.int .i64 (0)), .emp 2, .pv (.int .i64 (0)), .pv (.bool false), .pv (.int .i64 (0)), .pv (.str []), .pv (.int .i64 (0)), .pv (.int .i64 (0)), .pv (.int .i64 (0)), .pv (.int .i64 (0)), .pv (.int .i64 (0)), .pv (.int .i64 (0)), .pv (.int .i64 (0)), .pv (.int .i64 (0)), .pv (.int .i64 (0)), .pv (.int .i64 (0)), .pv (.int .i64 (0)), .emp 57, .emp 47, .emp 3, .pv (.str []), .pv (.int .i64 (0))], none, 0⟩,
   ⟨(some 3), .mv (.c (.pv (.int .i64 (0)))), none, 0⟩] false)
 (.seq (.reg [⟨(some 7), .load true 67 (.t 1), none, 0⟩,
   ⟨(some 8), .call (.f 89) [.t 7, .c (.pv (.int .i64 (1000)))], none, 1⟩,
   ⟨(some 6), .mv (.t 8), none, 3⟩,
   ⟨(some 9), .extract (.t 6) 0, none, 7⟩,
   ⟨(some 10), .extract (.t 6) 1, none, 7⟩,
   ⟨(some 4), .mv (.t 9), none, 15⟩,
   ⟨(some 5), .mv (.t 10), none, 63⟩] false)
 (.seq (.seq (.reg [⟨(some 11), .mv (.t 5), none, 0⟩,
   ⟨(some 12), .bin .neq (.t 11) (.c (.pv (.int .i64 (0)))), none, 1⟩] false)
 (.cond (.t 12)
  (.seq (.reg [⟨(some 13), .faddr (.t 1) 0, none, 0⟩,
    ⟨(some 14), .load true 67 (.t 13), none, 1⟩,
    ⟨(some 15), .mv (.t 5), none, 0⟩,
    ⟨none, .store 67 (.t 2) (.t 14), none, 3⟩,
    ⟨(some 3), .mv (.t 15), none, 15⟩] false)
  (.ret))
  (.skip)))
 (.seq (.reg [⟨(some 16), .load true 67 (.t 1), none, 0⟩,
   ⟨(some 17), .mv (.t 4), none, 0⟩,
   ⟨(some 18), .build [.pv (.int .i64 (0)), .pv (.bool false), .pv (.int .i64 (0)), .pv (.str []), .pv (.int .i64 (0)), .pv (.int .i64 (0)), .pv (.int .i64 (0))] [(0, 1, .c (.pv (.int .i64 (7)))), (6, 1, .t 17)], none, 2⟩,
   ⟨(some 19), .mv (.t 4), none, 0⟩,
   ⟨(some 20), .mksl 7 64 [.int .i64 (0), .bool false, .int .i64 (0), .str [], .int .i64 (0), .int .i64 (0), .int .i64 (0)] (.t 19), none, 8⟩,
   ⟨(some 21), .call (.f 92) [.t 16, .c (.pv (.int .i64 (1))), .t 18, .t 20, .f 93], none, 31⟩,
   ⟨(some 22), .extract (.t 21) 0, none, 63⟩,
   ⟨(some 23), .extract (.t 21) 1, none, 63⟩,
   ⟨none, .store 67 (.t 2) (.t 22), none, 255⟩,
   ⟨(some 3), .mv (.t 23), none, 511⟩] true)
 (.ret))))⟩
def c53 : RFn := ⟨1, 47, [.cell 2 true 67, .tmp 3],
 .seq (.reg [⟨(some 1), .box 67 (.t 0), none, 0⟩,
   ⟨(some 2), .alloc [.emp 7, .emp 7, .emp 7, .emp 3, .pv (.int .i64 (0)), .pv (.int .i64 (0)), .pv (.int .i64 (0)), .pv (.int .i64 (0)), .pv (.int .i64 (0)), .pv (.int .i64 (0)), .pv (.int .i64 (0)), .emp 7, .pv (.int .i64 (0)), .pv (.int .i64 (0)), .pv (.int .i64 (0)), .pv (.int .i64 (0)), .pv (.int .i64 (0)), .pv (.int .i64 (0)), .pv (.int .i64 (0)), .pv (.int .i64 (0)), .pv (.int .i64 (0)), .pv (.int .i64 (0)), .pv (.int .i64 (0)), .pv (.int .i64 (0)), .pv (.int .i64 (0)), .pv (.int .i64 (0)), .pv (.int .i64 (0)), .pv (.int .i64 (0)), .pv (.int .i64 (0)), .pv (.int .i64 (0)), .pv (.int .i64 (0)), .pv (.int .i64 (0)), .pv (.bool false), .pv (.bool false), .emp 47, .pv (.int .i64 (0)), .pv (.int .i64 (0)), .pv (.int .i64 (0)), .pv (.int .i64 (0)), .pv (.int .i64 (0)), .pv (.int .i64 (0)), .pv (.int .i64 (0)), .pv (.int .i64 (0)), .emp 1, .pv (.int .i64 (0)), .pv (.int .i64 (0)), .emp 2, .pv (.int .i64 (0)), .pv (.bool false), .pv (.int .i64 (0)), .pv (.str []), .pv (.int .i64 (0)), .pv (.int .i64 (0)), .pv (.int .i64 (0)), .pv (.int .i64 (0)), .pv (.int .i64 (0)), .pv (.int .i64 (0)), .pv (.int .i64 (0)), .pv (.int .i64 (0)), .pv (.int .i64 (0)), .pv (.int .i64 (0)), .pv (.int .i64 (0)), .emp 57, .emp 47, .emp 3, .pv (.str []), .pv (.int .i64 (0))], none, 0⟩,
   ⟨(some 3), .mv (.c (.pv (.int .i64 (0)))), none, 0⟩] false)
 (.seq (.reg [⟨(some 9), .load true 67 (.t 1), none, 0⟩,
   ⟨(some 10), .bsl 1 1 [.pv (.int .i64 (0))] [(0, .c (.pv (.int .i64 (1))))], none, 0⟩,
   ⟨(some 11), .call (.f 94) [.t 9, .t 10], none, 3⟩,
   ⟨(some 8), .mv (.t 11), none, 7⟩,
   ⟨(some 12), .extract (.t 8) 0, none, 15⟩,
   ⟨(some 13), .extract (.t 8) 1, none, 15⟩,
   ⟨(some 4), .mv (.t 12), none, 31⟩,
   ⟨(some 5), .mv (.t 13), none, 127⟩] false)
 (.seq (.seq (.reg [⟨(some 14), .mv (.t 5), none, 0⟩,
   ⟨(some 15), .bin .neq (.t 14) (.c (.pv (.int .i64 (0)))), none, 1⟩] false)
 (.cond (.t 15)
  (.seq (.reg [⟨(some 16), .faddr (.t 1) 0, none, 0⟩,
    ⟨(some 17), .load true 67 (.t 16), none, 1⟩,
    ⟨(some 18), .mv (.t 5), none, 0⟩,
    ⟨none, .store 67 (.t 2) (.t 17), none, 3⟩,
    ⟨(some 3), .mv (.t 18), none, 15⟩] false)
  (.ret))
  (.skip)))
 (.seq (.reg [⟨(some 19), .mv (.t 4), none, 0⟩,
   ⟨(some 20), .iaddr 7 (.t 19) (.c (.pv (.int .i64 (0)))), none, 1⟩,
   ⟨(some 21), .faddr (.t 20) 2, none, 3⟩,
   ⟨(some 22), .load false 1 (.t 21), none, 7⟩,
   ⟨(some 6), .mv (.t 22), none, 15⟩] false)
 (.seq (.seq (.reg [⟨(some 23), .mv (.t 6), none, 0⟩,
   ⟨(some 24), .bin .lss (.t 23) (.c (.pv (.int .i64 (0)))), none, 1⟩] false)
 (.cond (.t 24)
  (.seq (.reg [⟨(some 25), .faddr (.t 1) 0, none, 0⟩,
    ⟨(some 26), .load true 67 (.t 25), none, 1⟩,
    ⟨none, .store 67 (.t 2) (.t 26), none, 3⟩,
    ⟨(some 3), .mv (.c (.pv (.int .i64 (23)))), none, 7⟩] false)
  (.ret))
  (.skip)))
 (.seq (.reg [⟨(some 28), .load true 67 (.t 1), none, 0⟩,
   ⟨(some 29), .mv (.t 6), none, 0⟩,
   ⟨(some 30), .call (.f 95) [.t 28, .c (.pv (.int .i64 (1))), .t 29], none, 3⟩,
   ⟨(some 27), .mv (.t 30), none, 7⟩,
   ⟨(some 31), .extract (.t 27) 0, none, 15⟩,
   ⟨(some 32), .extract (.t 27) 1, none, 15⟩,
   ⟨(some 7), .mv (.t 31), none, 31⟩,
   ⟨(some 5), .mv (.t 32), none, 127⟩] false)
 (.seq (.seq (.reg [⟨(some 33), .mv (.t 5), none, 0⟩,
   ⟨(some 34), .bin .neq (.t 33) (.c (.pv (.int .i64 (0)))), none, 1⟩] false)
 (.cond (.t 34)
  (.seq (.reg [⟨(some 35), .faddr (.t 1) 0, none, 0⟩,
    ⟨(some 36), .load true 67 (.t 35), none, 1⟩,
    ⟨(some 37), .mv (.t 5), none, 0⟩,
    ⟨none, .store 67 (.t 2) (.t 36), none, 3⟩,
    ⟨(some 3), .mv (.t 37), none, 15⟩] false)
  (.ret))
  (.skip)))
 (.seq (.reg [⟨(some 38), .load true 67 (.t 1), none, 0⟩,
   ⟨(some 39), .mv (.t 6), none, 0⟩,
   ⟨(some 40), .bin .add (.t 39) (.c (.pv (.int .i64 (1)))), none, 2⟩,
   ⟨(some 41), .mv (.t 6), none, 0⟩,
   ⟨(some 42), .build [.pv (.int .i64 (0)), .pv (.bool false), .pv (.int .i64 (0)), .pv (.str []), .pv (.int .i64 (0)), .pv (.int .i64 (0)), .pv (.int .i64 (0))] [(0, 1, .c (.pv (.int .i64 (8)))), (6, 1, .t 41)], none, 8⟩,
   ⟨(some 43), .mv (.t 7), none, 0⟩,
   ⟨(some 44), .call (.f 92) [.t 38, .t 40, .t 42, .t 43, .f 93], none, 63⟩,
   ⟨(some 45), .extract (.t 44) 0, none, 127⟩,
   ⟨(some 46), .extract (.t 44) 1, none, 127⟩,
   ⟨none, .store 67 (.t 2) (.t 45), none, 511⟩,
   ⟨(some 3), .mv (.t 46), none, 1023⟩] false)
 (.ret))))))))⟩
def c54 : RFn := ⟨1, 43, [.cell 2 true 67, .tmp 3],
 .seq (.reg [⟨(some 1), .box 67 (.t 0), none, 0⟩,
   ⟨(some 2), .alloc [.emp 7, .emp 7, .emp 7, .emp 3, .pv (.int .i64 (0)), .pv (.int .i64 (0)), .pv (.int .i64 (0)), .pv (.int .i64 (0)), .pv (.int .i64 (0)), .pv (.int .i64 (0)), .pv (.int .i64 (0)), .emp 7, .pv (.int .i64 (0)), .pv (.int .i64 (0)), .pv (.int .i64 (0)), .pv (.int .i64 (0)), .pv (.int .i64 (0)), .pv (.int .i64 (0)), .pv (.int .i64 (0)), .pv (.int .i64 (0)), .pv (.int .i64 (0)), .pv (.int .i64 (0)), .pv (.int .i64 (0)), .pv (.int .i64 (0)), .pv (.int .i64 (0)), .pv (.int .i64 (0)), .pv (.int .i64 (0)), .pv (.int .i64 (0)), .pv (.int .i64 (0)), .pv (.int .i64 (0)), .pv (.int .i64 (0)), .pv (.int .i64 (0)), .pv (.bool false), .pv (.bool false), .emp 47, .pv (.int .i64 (0)), .pv (.int .i64 (0)), .pv (.int .i64 (0)), .pv (.int .i64 (0)), .pv (.int .i64 (0)), .pv (.int .i64 (0)), .pv (.int .i64 (0)), .pv (.int .i64 (0)), .emp 1, .pv (.int .i64 (0)), .pv (.int .i64 (0)), .emp 2, .pv (.int .i64 (0)), .pv (.bool false), .pv (.int .i64 (0)), .pv (.str []), .pv (.int .i64 (0)), .pv (.int .i64 (0)), .pv (.int .i64 (0)), .pv (.int .i64 (0)), .pv (.int .i64 (0)), .pv (.int .i64 (0)), .pv (.int .i64 (0)), .pv (.int .i64 (0)), .pv (.int .i64 (0)), .pv (.int .i64 (0)), .pv (.int .i64 (0)), .emp 57, .emp 47, .emp 3, .pv (.str []), .pv (.int .i64 (0))], none, 0⟩,
   ⟨(some 3), .mv (.c (.pv (.int .i64 (0)))), none, 0⟩] false)
 (.seq (.reg [⟨(some 8), .load true 67 (.t 1), none, 0⟩,
   ⟨(some 9), .bsl 1 1 [.pv (.int .i64 (0))] [(0, .c (.pv (.int .i64 (5))))], none, 0⟩,
   ⟨(some 10), .call (.f 94) [.t 8, .t 9], none, 3⟩,
   ⟨(some 7), .mv (.t 10), none, 7⟩,
   ⟨(some 11), .extract (.t 7) 0, none, 15⟩,
   ⟨(some 12), .extract (.t 7) 1, none, 15⟩,
   ⟨(some 4), .mv (.t 11), none, 31⟩,
   ⟨(some 5), .mv (.t 12), none, 127⟩] false)
 (.seq (.seq (.reg [⟨(some 13), .mv (.t 5), none, 0⟩,
   ⟨(some 14), .bin .neq (.t 13) (.c (.pv (.int .i64 (0)))), none, 1⟩] false)
 (.cond (.t 14)
  (.seq (.reg [⟨(some 15), .faddr (.t 1) 0, none, 0⟩,
    ⟨(some 16), .load true 67 (.t 15), none, 1⟩,
    ⟨(some 17), .mv (.t 5), none, 0⟩,
    ⟨none, .store 67 (.t 2) (.t 16), none, 3⟩,
    ⟨(some 3), .mv (.t 17), none, 15⟩] false)
  (.ret))
  (.skip)))
 (.seq (.reg [⟨(some 19), .faddr (.t 1) 0, none, 0⟩,
   ⟨(some 20), .faddr (.t 19) 2, none, 1⟩,
   ⟨(some 21), .load false 1 (.t 20), none, 3⟩,
   ⟨(some 22), .mv (.t 4), none, 0⟩,
   ⟨(some 23), .iaddr 7 (.t 22) (.c (.pv (.int .i64 (0)))), none, 8⟩,
   ⟨(some 24), .load true 7 (.t 23), none, 24⟩,
   ⟨(some 25), .call (.f 96) [.t 21, .t 24], none, 63⟩,
   ⟨(some 18), .mv (.t 25), none, 127⟩,
   ⟨(some 26), .extract (.t 18) 0, none, 255⟩,
   ⟨(some 27), .extract (.t 18) 1, none, 255⟩,
   ⟨(some 6), .mv (.t 26), none, 511⟩,
   ⟨(some 5), .mv (.t 27), none, 2047⟩] true)
 (.seq (.seq (.reg [⟨(some 28), .mv (.t 5), none, 0⟩,
   ⟨(some 29), .bin .neq (.t 28) (.c (.pv (.int .i64 (0)))), none, 1⟩] false)
 (.cond (.t 29)
  (.seq (.reg [⟨(some 30), .faddr (.t 1) 0, none, 0⟩,
    ⟨(some 31), .load true 67 (.t 30), none, 1⟩,
    ⟨(some 32), .mv (.t 5), none, 0⟩,
    ⟨none, .store 67 (.t 2) (.t 31), none, 3⟩,
    ⟨(some 3), .mv (.t 32), none, 15⟩] false)
  (.ret))
  (.skip)))
 (.seq (.reg [⟨(some 33), .load true 67 (.t 1), none, 0⟩,
   ⟨(some 34), .faddr (.t 1) 0, none, 0⟩,
   ⟨(some 35), .faddr (.t 34) 2, none, 2⟩,
   ⟨(some 36), .load false 1 (.t 35), none, 6⟩,
   ⟨(some 37), .mv (.t 6), none, 0⟩,
   ⟨(some 38), .call (.f 98) [.t 37], none, 16⟩,
   ⟨(some 39), .bsl 7 1 [.pv (.int .i64 (0)), .pv (.bool false), .pv (.int .i64 (0)), .pv (.str []), .pv (.int .i64 (0)), .pv (.int .i64 (0)), .pv (.int .i64 (0))] [(0, .t 38)], none, 48⟩,
   ⟨(some 40), .call (.f 97) [.t 33, .c (.pv (.int .i64 (1))), .t 36, .t 39], none, 127⟩,
   ⟨(some 41), .extract (.t 40) 0, none, 255⟩,
   ⟨(some 42), .extract (.t 40) 1, none, 255⟩,
   ⟨none, .store 67 (.t 2) (.t 41), none, 1023⟩,
   ⟨(some 3), .mv (.t 42), none, 2047⟩] true)
 (.ret))))))⟩
def c55 : RFn := ⟨1, 85, [.cell 2 true 67, .tmp 3],
 .seq (.reg [⟨(some 1), .box 67 (.t 0), none, 0⟩,
   ⟨(some 2), .alloc [.emp 7, .emp 7, .emp 7, .emp 3, .pv (.int .i64 (0)), .pv (.int .i64 (0)), .pv (.int .i64 (0)), .pv (.int .i64 (0)), .pv (.int .i64 (0)), .pv (.int .i64 (0)), .pv (.int .i64 (0)), .emp 7, .pv (.int .i64 (0)), .pv (.int .i64 (0)), .pv (.int .i64 (0)), .pv (.int .i64 (0)), .pv (.int .i64 (0)), .pv (.int .i64 (0)), .pv (.int .i64 (0)), .pv (.int .i64 (0)), .pv (.int .i64 (0)), .pv (.int .i64 (0)), .pv (.int .i64 (0)), .pv (.int .i64 (0)), .pv (.int .i64 (0)), .pv (.int .i64 (0)), .pv (.int .i64 (0)), .pv (.int .i64 (0)), .pv (.int .i64 (0)), .pv (.int .i64 (0)), .pv (.int .i64 (0)), .pv (.int .i64 (0)), .pv (.bool false), .pv (.bool false), .emp 47, .pv (.int .i64 (0)), .pv (.int .i64 (0)), .pv (.int .i64 (0)), .pv (.int .i64 (0)), .pv (.int .i64 (0)), .pv (.int .i64 (0)), .pv (.int .i64 (0)), .pv (.int .i64 (0)), .emp 1, .pv (.int .i64 (0)), .pv (.int .i64 (0)), .emp 2, .pv (.int .i64 (0)), .pv (.bool false), .pv (.int .i64 (0)), .pv (.str []), .pv (.int .i64 (0)), .pv (.int .i64 (0)), .pv (.int .i64 (0)), .pv (.int .i64 (0)), .pv (.int .i64 (0)), .pv (.int .i64 (0)), .pv (.int .i64 (0)), .pv (.int .i64 (0)), .pv (.int .i64 (0)), .pv (.int .i64 (0)), .pv (.int .i64 (0)), .emp 57, .emp 47, .emp 3, .pv (.str []), .pv (.int .i64 (0))], none, 0⟩,
   ⟨(some 3), .mv (.c (.pv (.int .i64 (0)))), none, 0⟩] false)
 (.seq (.reg [⟨(some 13), .load true 67 (.t 1), none, 0⟩,
   ⟨(some 14), .bsl 1 2 [.pv (.int .i64 (0))] [(0, .c (.pv (.int .i64 (4)))), (1, .c (.pv (.int .i64 (1))))], none, 0⟩,
   ⟨(some 15), .call (.f 94) [.t 13, .t 14], none, 3⟩,
   ⟨(some 12), .mv (.t 15), none, 7⟩,
   ⟨(some 16), .extract (.t 12) 0, none, 15⟩,
   ⟨(some 17), .extract (.t 12) 1, none, 15⟩,
   ⟨(some 4), .mv (.t 16), none, 31⟩,
   ⟨(some 5), .mv (.t 17), none, 127⟩] false)
 (.seq (.seq (.reg [⟨(some 18), .mv (.t 5), none, 0⟩,
   ⟨(some 19), .bin .neq (.t 18) (.c (.pv (.int .i64 (0)))), none, 1⟩] false)
 (.cond (.t 19)
  (.seq (.reg [⟨(some 20), .faddr (.t 1) 0, none, 0⟩,
    ⟨(some 21), .load true 67 (.t 20), none, 1⟩,
    ⟨(some 22), .mv (.t 5), none, 0⟩,
    ⟨none, .store 67 (.t 2) (.t 21), none, 3⟩,
    ⟨(some 3), .mv (.t 22), none, 15⟩] false)
  (.ret))
  (.skip)))
 (.seq (.reg [⟨(some 24), .mv (.t 4), none, 0⟩,
   ⟨(some 25), .iaddr 7 (.t 24) (.c (.pv (.int .i64 (0)))), none, 1⟩,
   ⟨(some 26), .load true 7 (.t 25), none, 3⟩,
   ⟨(some 27), .mv (.t 4), none, 0⟩,
   ⟨(some 28), .iaddr 7 (.t 27) (.c (.pv (.int .i64 (1)))), none, 8⟩,
   ⟨(some 29), .faddr (.t 28) 2, none, 24⟩,
   ⟨(some 30), .load false 1 (.t 29), none, 56⟩,
   ⟨(some 31), .call (.f 99) [.t 26, .t 30, .c (.pv (.int .i64 (1)))], none, 127⟩,
   ⟨(some 23), .mv (.t 31), none, 255⟩,
   ⟨(some 32), .extract (.t 23) 0, none, 511⟩,
   ⟨(some 33), .extract (.t 23) 1, none, 511⟩,
   ⟨(some 6), .alloc [.pv (.int .i64 (0)), .pv (.bool false), .pv (.int .i64 (0)), .pv (.str []), .pv (.int .i64 (0)), .pv (.int .i64 (0)), .pv (.int .i64 (0))], none, 0⟩,
   ⟨none, .store 7 (.t 6) (.t 32), none, 3071⟩,
   ⟨(some 5), .mv (.t 33), none, 8191⟩] true)
 (.seq (.seq (.reg [⟨(some 34), .mv (.t 5), none, 0⟩,
   ⟨(some 35), .bin .neq (.t 34) (.c (.pv (.int .i64 (0)))), none, 1⟩] false)
 (.cond (.t 35)
  (.seq (.reg [⟨(some 36), .faddr (.t 1) 0, none, 0⟩,
    ⟨(some 37), .load true 67 (.t 36), none, 1⟩,
    ⟨(some 38), .mv (.t 5), none, 0⟩,
    ⟨none, .store 67 (.t 2) (.t 37), none, 3⟩,
    ⟨(some 3), .mv (.t 38), none, 15⟩] false)
  (.ret))
  (.skip)))
 (.seq (.reg [⟨(some 7), .alloc [.pv (.int .i64 (0)), .pv (.bool false), .pv (.int .i64 (0)), .pv (.str []), .pv (.int .i64 (0)), .pv (.int .i64 (0)), .pv (.int .i64 (0))], none, 0⟩] false)
 (.seq (.seq (.reg [⟨(some 39), .faddr (.t 6) 0, none, 0⟩,
   ⟨(some 40), .load false 1 (.t 39), none, 1⟩,
   ⟨(some 41), .bin .eql (.t 40) (.c (.pv (.int .i64 (6)))), none, 3⟩] false)
 (.cond (.t 41)
  (.seq (.reg [⟨(some 43), .faddr (.t 1) 0, none, 0⟩,
    ⟨(some 44), .faddr (.t 43) 2, none, 1⟩,
    ⟨(some 45), .load false 1 (.t 44), none, 3⟩,
    ⟨(some 46), .load true 7 (.t 6), none, 0⟩,
    ⟨(some 47), .call (.f 49) [.t 45, .t 46], none, 15⟩,
    ⟨(some 42), .mv (.t 47), none, 31⟩,
    ⟨(some 48), .extract (.t 42) 0, none, 63⟩,
    ⟨(some 49), .extract (.t 42) 1, none, 63⟩,
    ⟨(some 8), .mv (.t 48), none, 127⟩,
    ⟨(some 9), .mv (.t 49), none, 511⟩] false)
  (.seq (.reg [⟨(some 50), .mv (.t 9), none, 0⟩,
    ⟨(some 5), .mv (.t 50), none, 1⟩] false)
  (.seq (.reg [⟨(some 51), .mv (.t 5), none, 0⟩,
    ⟨(some 52), .bin .eql (.t 51) (.c (.pv (.int .i64 (0)))), none, 1⟩] false)
  (.cond (.t 52)
   (.reg [⟨(some 53), .mv (.t 8), none, 0⟩,
     ⟨(some 54), .sindex (.t 53) (.c (.pv (.int .i64 (0)))), none, 1⟩,
     ⟨(some 55), .conv .i64 (.t 54), none, 3⟩,
     ⟨(some 56), .call (.f 98) [.t 55], none, 7⟩,
     ⟨none, .store 7 (.t 7) (.t 56), none, 15⟩] false)
   (.skip)))))
  (.seq (.reg [⟨(some 58), .faddr (.t 1) 0, none, 0⟩,
    ⟨(some 59), .faddr (.t 58) 2, none, 1⟩,
    ⟨(some 60), .load false 1 (.t 59), none, 3⟩,
    ⟨(some 61), .load true 7 (.t 6), none, 0⟩,
    ⟨(some 62), .call (.f 48) [.t 60, .t 61], none, 15⟩,
    ⟨(some 57), .mv (.t 62), none, 31⟩,
    ⟨(some 63), .extract (.t 57) 0, none, 63⟩,
    ⟨(some 64), .extract (.t 57) 1, none, 63⟩,
    ⟨(some 10), .mv (.t 63), none, 127⟩,
    ⟨(some 11), .mv (.t 64), none, 511⟩] false)
  (.seq (.reg [⟨(some 65), .mv (.t 11), none, 0⟩,
    ⟨(some 5), .mv (.t 65), none, 1⟩] false)
  (.seq (.reg [⟨(some 66), .mv (.t 5), none, 0⟩,
    ⟨(some 67), .bin .eql (.t 66) (.c (.pv (.int .i64 (0)))), none, 1⟩] false)
  (.cond (.t 67)
   (.reg [⟨(some 68), .mv (.t 10), none, 0⟩,
     ⟨(some 69), .iaddr 7 (.t 68) (.c (.pv (.int .i64 (0)))), none, 1⟩,
     ⟨(some 70), .load true 7 (.t 69), none, 3⟩,
     ⟨none, .store 7 (.t 7) (.t 70), none, 7⟩] false)
   (.skip)))))))
 (.seq (.seq (.reg [⟨(some 71), .mv (.t 5), none, 0⟩,
   ⟨(some 72), .bin .neq (.t 71) (.c (.pv (.int .i64 (0)))), none, 1⟩] false)
 (.cond (.t 72)
  (.seq (.reg [⟨(some 73), .faddr (.t 1) 0, none, 0⟩,
    ⟨(some 74), .load true 67 (.t 73), none, 1⟩,
    ⟨(some 75), .mv (.t 5), none, 0⟩,
    ⟨none, .store 67 (.t 2) (.t 74), none, 3⟩,
    ⟨(some 3), .mv (.t 75), none, 15⟩] false)
  (.ret))
  (.skip)))
 (.seq (.reg [⟨(some 76), .load true 67 (.t 1), none, 0⟩,
   ⟨(some 77), .faddr (.t 1) 0, none, 0⟩,
   ⟨(some 78), .faddr (.t 77) 2, none, 2⟩,
   ⟨(some 79), .load false 1 (.t 78), none, 6⟩,
   ⟨(some 80), .load true 7 (.t 7), none, 0⟩,
   ⟨(some 81), .bsl 7 1 [.pv (.int .i64 (0)), .pv (.bool false), .pv (.int .i64 (0)), .pv (.str []), .pv (.int .i64 (0)), .pv (.int .i64 (0)), .pv (.int .i64 (0))] [(0, .t 80)], none, 16⟩,
   ⟨(some 82), .call (.f 97) [.t 76, .c (.pv (.int .i64 (2))), .t 79, .t 81], none, 63⟩,
   ⟨(some 83), .extract (.t 82) 0, none, 127⟩,
   ⟨(some 84), .extract (.t 82) 1, none, 127⟩,
   ⟨none, .store 67 (.t 2) (.t 83), none, 511⟩,
   ⟨(some 3), .mv (.t 84), none, 1023⟩] false)
 (.ret)))))))))⟩
def c56 : RFn := ⟨1, 107, [.cell 2 true 67, .tmp 3],
 .seq (.reg [⟨(some 1), .box 67 (.t 0), none, 0⟩,
   ⟨(some 2), .alloc [.emp 7, .emp 7, .emp 7, .emp 3, .pv (.int .i64 (0)), .pv (.int .i64 (0)), .pv (.int .i64 (0)), .pv (.int .i64 (0)), .pv (.int .i64 (0)), .pv (.int .i64 (0)), .pv (.int .i64 (0)), .emp 7, .pv (.int .i64 (0)), .pv (.int .i64 (0)), .pv (.int .i64 (0)), .pv (.int .i64 (0)), .pv (.int .i64 (0)), .pv (.int .i64 (0)), .pv (.int .i64 (0)), .pv (.int .i64 (0)), .pv (.int .i64 (0)), .pv (.int .i64 (0)), .pv (.int .i64 (0)), .pv (.int .i64 (0)), .pv (.int .i64 (0)), .pv (.int .i64 (0)), .pv (.int .i64 (0)), .pv (.int .i64 (0)), .pv (.int .i64 (0)), .pv (.int .i64 (0)), .pv (.int .i64 (0)), .pv (.int .i64 (0)), .pv (.bool false), .pv (.bool false), .emp 47, .pv (.int .i64 (0)), .pv (.int .i64 (0)), .pv (.int .i64 (0)), .pv (.int .i64 (0)), .pv (.int .i64 (0)), .pv (.int .i64 (0)), .pv (.int .i64 (0)), .pv (.int .i64 (0)), .emp 1, .pv (.int .i64 (0)), .pv (.int .i64 (0)), .emp 2, .pv (.int .i64 (0)), .pv (.bool false), .pv (.int .i64 (0)), .pv (.str []), .pv (.int .i64 (0)), .pv (.int .i64 (0)), .pv (.int .i64 (0)), .pv (.int .i64 (0)), .pv (.int .i64 (0)), .pv (.int .i64 (0)), .pv (.int .i64 (0)), .pv (.int .i64 (0)), .pv (.int .i64 (0)), .pv (.int .i64 (0)), .pv (.int .i64 (0)), .emp 57, .emp 47, .emp 3, .pv (.str []), .pv (.int .i64 (0))], none, 0⟩,
   ⟨(some 3), .mv (.c (.pv (.int .i64 (0)))), none, 0⟩] false)
 (.seq (.reg [⟨(some 11), .load true 67 (.t 1), none, 0⟩,
   ⟨(some 12), .bsl 1 3 [.pv (.int .i64 (0))] [(0, .c (.pv (.int .i64 (4)))), (1, .c (.pv (.int .i64 (1)))), (2, .c (.pv (.int .i64 (0))))], none, 0⟩,
   ⟨(some 13), .call (.f 94) [.t 11, .t 12], none, 3⟩,
   ⟨(some 10), .mv (.t 13), none, 7⟩,
   ⟨(some 14), .extract (.t 10) 0, none, 15⟩,
   ⟨(some 15), .extract (.t 10) 1, none, 15⟩,
   ⟨(some 4), .mv (.t 14), none, 31⟩,
   ⟨(some 5), .mv (.t 15), none, 127⟩] false)
 (.seq (.seq (.reg [⟨(some 16), .mv (.t 5), none, 0⟩,
   ⟨(some 17), .bin .neq (.t 16) (.c (.pv (.int .i64 (0)))), none, 1⟩] false)
 (.cond (.t 17)
  (.seq (.reg [⟨(some 18), .faddr (.t 1) 0, none, 0⟩,
    ⟨(some 19), .load true 67 (.t 18), none, 1⟩,
    ⟨(some 20), .mv (.t 5), none, 0⟩,
    ⟨none, .store 67 (.t 2) (.t 19), none, 3⟩,
    ⟨(some 3), .mv (.t 20), none, 15⟩] false)
  (.ret))
  (.skip)))
 (.seq (.reg [⟨(some 21), .mv (.t 4), none, 0⟩,
   ⟨(some 22), .iaddr 7 (.t 21) (.c (.pv (.int .i64 (0)))), none, 1⟩,
   ⟨(some 23), .load true 7 (.t 22), none, 3⟩,
   ⟨(some 24), .mv (.t 4), none, 0⟩,
   ⟨(some 25), .iaddr 7 (.t 24) (.c (.pv (.int .i64 (1)))), none, 8⟩,
   ⟨(some 26), .faddr (.t 25) 2, none, 24⟩,
   ⟨(some 27), .load false 1 (.t 26), none, 56⟩,
   ⟨(some 28), .mv (.t 4), none, 0⟩,
   ⟨(some 29), .iaddr 7 (.t 28) (.c (.pv (.int .i64 (2)))), none, 128⟩,
   ⟨(some 30), .load true 7 (.t 29), none, 384⟩,
   ⟨(some 6), .alloc [.pv (.int .i64 (0)), .pv (.bool false), .pv (.int .i64 (0)), .pv (.str []), .pv (.int .i64 (0)), .pv (.int .i64 (0)), .pv (.int .i64 (0))], none, 0⟩,
   ⟨(some 8), .alloc [.pv (.int .i64 (0)), .pv (.bool false), .pv (.int .i64 (0)), .pv (.str []), .pv (.int .i64 (0)), .pv (.int .i64 (0)), .pv (.int .i64 (0))], none, 0⟩,
   ⟨none, .store 7 (.t 6) (.t 23), none, 3079⟩,
   ⟨(some 7), .mv (.t 27), none, 7295⟩,
   ⟨none, .store 7 (.t 8) (.t 30), none, 16383⟩] true)
 (.seq (.seq (.reg [⟨(some 31), .faddr (.t 6) 0, none, 0⟩,
   ⟨(some 32), .load false 1 (.t 31), none, 1⟩,
   ⟨(some 33), .bin .eql (.t 32) (.c (.pv (.int .i64 (6)))), none, 3⟩,
   ⟨(some 34), .mv (.t 33), none, 7⟩,
   ⟨(some 35), .faddr (.t 8) 0, (some (34, true)), 15⟩,
   ⟨(some 36), .load false 1 (.t 35), (some (34, true)), 31⟩,
   ⟨(some 37), .bin .neq (.t 36) (.c (.pv (.int .i64 (3)))), (some (34, true)), 63⟩,
   ⟨(some 38), .pick (.t 34) (.t 37) (.c (.pv (.bool false))), none, 127⟩] false)
 (.cond (.t 38)
  (.seq (.reg [⟨(some 39), .faddr (.t 1) 0, none, 0⟩,
    ⟨(some 40), .load true 67 (.t 39), none, 1⟩,
    ⟨none, .store 67 (.t 2) (.t 40), none, 3⟩,
    ⟨(some 3), .mv (.c (.pv (.int .i64 (22)))), none, 7⟩] false)
  (.ret))
  (.skip)))
 (.seq (.reg [⟨(some 41), .faddr (.t 1) 0, none, 0⟩,
   ⟨(some 42), .faddr (.t 41) 2, none, 1⟩,
   ⟨(some 43), .load false 1 (.t 42), none, 3⟩,
   ⟨(some 9), .mv (.t 43), none, 7⟩] false)
 (.seq (.block 0
  (.seq (.reg [⟨(some 54), .faddr (.t 6) 0, none, 0⟩,
    ⟨(some 55), .load false 1 (.t 54), none, 1⟩,
    ⟨(some 56), .bin .eql (.t 55) (.c (.pv (.int .i64 (8)))), none, 3⟩,
    ⟨(some 53), .mv (.t 56), none, 7⟩] false)
  (.cond (.t 53)
   (.reg [⟨(some 5), .mv (.c (.pv (.int .i64 (31)))), none, 0⟩] false)
   (.seq (.reg [⟨(some 58), .mv (.t 7), none, 0⟩,
     ⟨(some 59), .bin .lss (.t 58) (.c (.pv (.int .i64 (0)))), none, 1⟩,
     ⟨(some 60), .mv (.t 59), none, 3⟩,
     ⟨(some 61), .mv (.t 7), (some (60, false)), 7⟩,
     ⟨(some 62), .faddr (.t 6) 6, (some (60, false)), 7⟩,
     ⟨(some 63), .load false 1 (.t 62), (some (60, false)), 23⟩,
     ⟨(some 64), .bin .geq (.t 61) (.t 63), (some (60, false)), 63⟩,
     ⟨(some 65), .pick (.t 60) (.c (.pv (.bool true))) (.t 64), none, 127⟩,
     ⟨(some 66), .mv (.t 65), none, 255⟩,
     ⟨(some 67), .faddr (.t 6) 0, (some (66, false)), 511⟩,
     ⟨(some 68), .load false 1 (.t 67), (some (66, false)), 1023⟩,
     ⟨(some 69), .bin .eql (.t 68) (.c (.pv (.int .i64 (6)))), (some (66, false)), 2047⟩,
     ⟨(some 70), .mv (.t 69), (some (66, false)), 4095⟩,
     ⟨(some 71), .faddr (.t 8) 2, (some (70, true)), 8191⟩,
     ⟨(some 72), .load false 1 (.t 71), (some (70, true)), 16383⟩,
     ⟨(some 73), .bin .lss (.t 72) (.c (.pv (.int .i64 (0)))), (some (70, true)), 32767⟩,
     ⟨(some 74), .mv (.t 73), (some (70, true)), 65535⟩,
     ⟨(some 75), .faddr (.t 8) 2, (some (74, false)), 131071⟩,
     ⟨(some 76), .load false 1 (.t 75), (some (74, false)), 262143⟩,
     ⟨(some 77), .bin .gtr (.t 76) (.c (.pv (.int .i64 (255)))), (some (74, false)), 524287⟩,
     ⟨(some 78), .pick (.t 74) (.c (.pv (.bool true))) (.t 77), (some (70, true)), 1048575⟩,
     ⟨(some 79), .pick (.t 70) (.t 78) (.c (.pv (.bool false))), (some (66, false)), 2097151⟩,
     ⟨(some 80), .pick (.t 66) (.c (.pv (.bool true))) (.t 79), none, 4194303⟩,
     ⟨(some 57), .mv (.t 80), none, 8388607⟩] false)
   (.cond (.t 57)
    (.reg [⟨(some 5), .mv (.c (.pv (.int .i64 (23)))), none, 0⟩] false)
    (.seq (.reg [⟨(some 82), .faddr (.t 6) 0, none, 0⟩,
      ⟨(some 83), .load false 1 (.t 82), none, 1⟩,
      ⟨(some 84), .bin .eql (.t 83) (.c (.pv (.int .i64 (6)))), none, 3⟩,
      ⟨(some 81), .mv (.t 84), none, 7⟩] false)
    (.cond (.t 81)
     (.reg [⟨(some 86), .mv (.t 9), none, 0⟩,
       ⟨(some 87), .load true 7 (.t 6), none, 0⟩,
       ⟨(some 88), .mv (.t 7), none, 0⟩,
       ⟨(some 89), .faddr (.t 8) 2, none, 0⟩,
       ⟨(some 90), .load false 1 (.t 89), none, 8⟩,
       ⟨(some 91), .conv .u8 (.t 90), none, 24⟩,
       ⟨(some 92), .bsl 1 1 [.pv (.int .u8 (0))] [(0, .t 91)], none, 56⟩,
       ⟨(some 93), .b2s (.t 92), none, 120⟩,
       ⟨(some 94), .call (.f 100) [.t 86, .t 87, .t 88, .t 93], none, 255⟩,
       ⟨(some 85), .mv (.t 94), none, 511⟩,
       ⟨(some 95), .extract (.t 85) 0, none, 1023⟩,
       ⟨(some 96), .extract (.t 85) 1, none, 1023⟩,
       ⟨(some 9), .mv (.t 95), none, 2047⟩,
       ⟨(some 5), .mv (.t 96), none, 8191⟩] false)
     (.reg [⟨(some 45), .mv (.t 9), none, 0⟩,
       ⟨(some 46), .load true 7 (.t 6), none, 0⟩,
       ⟨(some 47), .mv (.t 7), none, 0⟩,
       ⟨(some 48), .load true 7 (.t 8), none, 0⟩,
       ⟨(some 49), .bsl 7 1 [.pv (.int .i64 (0)), .pv (.bool false), .pv (.int .i64 (0)), .pv (.str []), .pv (.int .i64 (0)), .pv (.int .i64 (0)), .pv (.int .i64 (0))] [(0, .t 48)], none, 8⟩,
       ⟨(some 50), .call (.f 101) [.t 45, .t 46, .t 47, .t 49], none, 31⟩,
       ⟨(some 44), .mv (.t 50), none, 63⟩,
       ⟨(some 51), .extract (.t 44) 0, none, 127⟩,
       ⟨(some 52), .extract (.t 44) 1, none, 127⟩,
       ⟨(some 9), .mv (.t 51), none, 255⟩,
       ⟨(some 5), .mv (.t 52), none, 1023⟩] false))))))))
 (.seq (.seq (.reg [⟨(some 97), .mv (.t 5), none, 0⟩,
   ⟨(some 98), .bin .neq (.t 97) (.c (.pv (.int .i64 (0)))), none, 1⟩] false)
 (.cond (.t 98)
  (.seq (.reg [⟨(some 99), .faddr (.t 1) 0, none, 0⟩,
    ⟨(some 100), .load true 67 (.t 99), none, 1⟩,
    ⟨(some 101), .mv (.t 5), none, 0⟩,
    ⟨none, .store 67 (.t 2) (.t 100), none, 3⟩,
    ⟨(some 3), .mv (.t 101), none, 15⟩] false)
  (.ret))
  (.skip)))
 (.seq (.reg [⟨(some 102), .load true 67 (.t 1), none, 0⟩,
   ⟨(some 103), .mv (.t 9), none, 0⟩,
   ⟨(some 104), .call (.f 97) [.t 102, .c (.pv (.int .i64 (3))), .t 103, .c (.emp 7)], none, 3⟩,
   ⟨(some 105), .extract (.t 104) 0, none, 7⟩,
   ⟨(some 106), .extract (.t 104) 1, none, 7⟩,
   ⟨none, .store 67 (.t 2) (.t 105), none, 31⟩,
   ⟨(some 3), .mv (.t 106), none, 63⟩] false)
 (.ret)))))))))⟩
def c57 : RFn := ⟨1, 47, [.cell 2 true 67, .tmp 3],
 .seq (.reg [⟨(some 1), .box 67 (.t 0), none, 0⟩,
   ⟨(some 2), .alloc [.emp 7, .emp 7, .emp 7, .emp 3, .pv (.int .i64 (0)), .pv (.int .i64 (0)), .pv (.int .i64 (0)), .pv (.int .i64 (0)), .pv (.int .i64 (0)), .pv (.int .i64 (0)), .pv (.int .i64 (0)), .emp 7, .pv (.int .i64 (0)), .pv (.int .i64 (0)), .pv (.int .i64 (0)), .pv (.int .i64 (0)), .pv (.int .i64 (0)), .pv (.int .i64 (0)), .pv (.int .i64 (0)), .pv (.int .i64 (0)), .pv (.int .i64 (0)), .pv (.int .i64 (0)), .pv (.int .i64 (0)), .pv (.int .i64 (0)), .pv (.int .i64 (0)), .pv (.int .i64 (0)), .pv (.int .i64 (0)), .pv (.int .i64 (0)), .pv (.int .i64 (0)), .pv (.int .i64 (0)), .pv (.int .i64 (0)), .pv (.int .i64 (0)), .pv (.bool false), .pv (.bool false), .emp 47, .pv (.int .i64 (0)), .pv (.int .i64 (0)), .pv (.int .i64 (0)), .pv (.int .i64 (0)), .pv (.int .i64 (0)), .pv (.int .i64 (0)), .pv (.int .i64 (0)), .pv (.int .i64 (0)), .emp 1, .pv (.int .i64 (0)), .pv (.int .i64 (0)), .emp 2, .pv (.int .i64 (0)), .pv (.bool false), .pv (.int .i64 (0)), .pv (.str []), .pv (.int .i64 (0)), .pv (.int .i64 (0)), .pv (.int .i64 (0)), .pv (.int .i64 (0)), .pv (.int .i64 (0)), .pv (.int .i64 (0)), .pv (.int .i64 (0)), .pv (.int .i64 (0)), .pv (.int .i64 (0)), .pv (.int .i64 (0)), .pv (.int .i64 (0)), .emp 57, .emp 47, .emp 3, .pv (.str []), .pv (.int .i64 (0))], none, 0⟩,
   ⟨(some 3), .mv (.c (.pv (.int .i64 (0)))), none, 0⟩] false)
 (.seq (.reg [⟨(some 8), .load true 67 (.t 1), none, 0⟩,
   ⟨(some 9), .bsl 1 3 [.pv (.int .i64 (0))] [(0, .c (.pv (.int .i64 (4)))), (1, .c (.pv (.int .i64 (1)))), (2, .c (.pv (.int .i64 (1))))], none, 0⟩,
   ⟨(some 10), .call (.f 94) [.t 8, .t 9], none, 3⟩,
   ⟨(some 7), .mv (.t 10), none, 7⟩,
   ⟨(some 11), .extract (.t 7) 0, none, 15⟩,
   ⟨(some 12), .extract (.t 7) 1, none, 15⟩,
   ⟨(some 4), .mv (.t 11), none, 31⟩,
   ⟨(some 5), .mv (.t 12), none, 127⟩] false)
 (.seq (.seq (.reg [⟨(some 13), .mv (.t 5), none, 0⟩,
   ⟨(some 14), .bin .neq (.t 13) (.c (.pv (.int .i64 (0)))), none, 1⟩] false)
 (.cond (.t 14)
  (.seq (.reg [⟨(some 15), .faddr (.t 1) 0, none, 0⟩,
    ⟨(some 16), .load true 67 (.t 15), none, 1⟩,
    ⟨(some 17), .mv (.t 5), none, 0⟩,
    ⟨none, .store 67 (.t 2) (.t 16), none, 3⟩,
    ⟨(some 3), .mv (.t 17), none, 15⟩] false)
  (.ret))
  (.skip)))
 (.seq (.reg [⟨(some 19), .mv (.t 4), none, 0⟩,
   ⟨(some 20), .iaddr 7 (.t 19) (.c (.pv (.int .i64 (0)))), none, 1⟩,
   ⟨(some 21), .load true 7 (.t 20), none, 3⟩,
   ⟨(some 22), .mv (.t 4), none, 0⟩,
   ⟨(some 23), .iaddr 7 (.t 22) (.c (.pv (.int .i64 (1)))), none, 8⟩,
   ⟨(some 24), .faddr (.t 23) 2, none, 24⟩,
   ⟨(some 25), .load false 1 (.t 24), none, 56⟩,
   ⟨(some 26), .mv (.t 4), none, 0⟩,
   ⟨(some 27), .iaddr 7 (.t 26) (.c (.pv (.int .i64 (2)))), none, 128⟩,
   ⟨(some 28), .faddr (.t 27) 2, none, 384⟩,
   ⟨(some 29), .load false 1 (.t 28), none, 896⟩,
   ⟨(some 30), .call (.f 99) [.t 21, .t 25, .t 29], none, 2047⟩,
   ⟨(some 18), .mv (.t 30), none, 4095⟩,
   ⟨(some 31), .extract (.t 18) 0, none, 8191⟩,
   ⟨(some 32), .extract (.t 18) 1, none, 8191⟩,
   ⟨(some 6), .alloc [.pv (.int .i64 (0)), .pv (.bool false), .pv (.int .i64 (0)), .pv (.str []), .pv (.int .i64 (0)), .pv (.int .i64 (0)), .pv (.int .i64 (0))], none, 0⟩,
   ⟨none, .store 7 (.t 6) (.t 31), none, 49151⟩,
   ⟨(some 5), .mv (.t 32), none, 131071⟩] true)
 (.seq (.seq (.reg [⟨(some 33), .mv (.t 5), none, 0⟩,
   ⟨(some 34), .bin .neq (.t 33) (.c (.pv (.int .i64 (0)))), none, 1⟩] false)
 (.cond (.t 34)
  (.seq (.reg [⟨(some 35), .faddr (.t 1) 0, none, 0⟩,
    ⟨(some 36), .load true 67 (.t 35), none, 1⟩,
    ⟨(some 37), .mv (.t 5), none, 0⟩,
    ⟨none, .store 67 (.t 2) (.t 36), none, 3⟩,
    ⟨(some 3), .mv (.t 37), none, 15⟩] false)
  (.ret))
  (.skip)))
 (.seq (.reg [⟨(some 38), .load true 67 (.t 1), none, 0⟩,
   ⟨(some 39), .faddr (.t 1) 0, none, 0⟩,
   ⟨(some 40), .faddr (.t 39) 2, none, 2⟩,
   ⟨(some 41), .load false 1 (.t 40), none, 6⟩,
   ⟨(some 42), .load true 7 (.t 6), none, 0⟩,
   ⟨(some 43), .bsl 7 1 [.pv (.int .i64 (0)), .pv (.bool false), .pv (.int .i64 (0)), .pv (.str []), .pv (.int .i64 (0)), .pv (.int .i64 (0)), .pv (.int .i64 (0))] [(0, .t 42)], none, 16⟩,
   ⟨(some 44), .call (.f 97) [.t 38, .c (.pv (.int .i64 (3))), .t 41, .t 43], none, 63⟩,
   ⟨(some 45), .extract (.t 44) 0, none, 127⟩,
   ⟨(some 46), .extract (.t 44) 1, none, 127⟩,
   ⟨none, .store 67 (.t 2) (.t 45), none, 511⟩,
   ⟨(some 3), .mv (.t 46), none, 1023⟩] false)
 (.ret))))))⟩
def c58 : RFn := ⟨1, 54, [.cell 2 true 67, .tmp 3],
 .seq (.reg [⟨(some 1), .box 67 (.t 0), none, 0⟩,
   ⟨(some 2), .alloc [.emp 7, .emp 7, .emp 7, .emp 3, .pv (.int .i64 (0)), .pv (.int .i64 (0)), .pv (.int .i64 (0)), .pv (.int .i64 (0)), .pv (.int .i64 (0)), .pv (.int .i64 (0)), .pv (.int .i64 (0)), .emp 7, .pv (.int .i64 (0)), .pv (.int .i64 (0)), .pv (.int .i64 (0)), .pv (.int .i64 (0)), .pv (.int .i64 (0)), .pv (.int .i64 (0)), .pv (.int .i64 (0)), .pv (.int .i64 (0)), .pv (.int .i64 (0)), .pv (.int .i64 (0)), .pv (.int .i64 (0)), .pv (.int .i64 (0)), .pv (.int .i64 (0)), .pv (.int .i64 (0)), .pv (.int .i64 (0)), .pv (.int .i64 (0)), .pv (.int .i64 (0)), .pv (.int .i64 (0)), .pv (.int .i64 (0)), .pv (.int .i64 (0)), .pv (.bool false), .pv (.bool false), .emp 47, .pv (.int .i64 (0)), .pv (.int .i64 (0)), .pv (.int .i64 (0)), .pv (.int .i64 (0)), .pv (.int .i64 (0)), .pv (.int .i64 (0)), .pv (.int .i64 (0)), .pv (.int .i64 (0)), .emp 1, .pv (.int .i64 (0)), .pv (.int .i64 (0)), .emp 2, .pv (.int .i64 (0)), .pv (.bool false), .pv (.int .i64 (0)), .pv (.str []), .pv (.int .i64 (0)), .pv (.int .i64 (0)), .pv (.int .i64 (0)), .pv (.int .i64 (0)), .pv (.int .i64 (0)), .pv (.int .i64 (0)), .pv (.int .i64 (0)), .pv (.int .i64 (0)), .pv (.int .i64 (0)), .pv (.int .i64 (0)), .pv (.int .i64 (0)), .emp 57, .emp 47, .emp 3, .pv (.str []), .pv (.int .i64 (0))], none, 0⟩,
   ⟨(some 3), .mv (.c (.pv (.int .i64 (0)))), none, 0⟩] false)
 (.seq (.reg [⟨(some 8), .load true 67 (.t 1), none, 0⟩,
   ⟨(some 9), .bsl 1 3 [.pv (.int .i64 (0))] [(0, .c (.pv (.int .i64 (4)))), (1, .c (.pv (.int .i64 (1)))), (2, .c (.pv (.int .i64 (4))))], none, 0⟩,
   ⟨(some 10), .call (.f 94) [.t 8, .t 9], none, 3⟩,
   ⟨(some 7), .mv (.t 10), none, 7⟩,
   ⟨(some 11), .extract (.t 7) 0, none, 15⟩,
   ⟨(some 12), .extract (.t 7) 1, none, 15⟩,
   ⟨(some 4), .mv (.t 11), none, 31⟩,
   ⟨(some 5), .mv (.t 12), none, 127⟩] false)
 (.seq (.seq (.reg [⟨(some 13), .mv (.t 5), none, 0⟩,
   ⟨(some 14), .bin .neq (.t 13) (.c (.pv (.int .i64 (0)))), none, 1⟩] false)
 (.cond (.t 14)
  (.seq (.reg [⟨(some 15), .faddr (.t 1) 0, none, 0⟩,
    ⟨(some 16), .load true 67 (.t 15), none, 1⟩,
    ⟨(some 17), .mv (.t 5), none, 0⟩,
    ⟨none, .store 67 (.t 2) (.t 16), none, 3⟩,
    ⟨(some 3), .mv (.t 17), none, 15⟩] false)
  (.ret))
  (.skip)))
 (.seq (.seq (.reg [⟨(some 18), .mv (.t 4), none, 0⟩,
   ⟨(some 19), .iaddr 7 (.t 18) (.c (.pv (.int .i64 (0)))), none, 1⟩,
   ⟨(some 20), .load true 7 (.t 19), none, 3⟩,
   ⟨(some 21), .call (.f 102) [.t 20], none, 7⟩,
   ⟨(some 22), .mv (.t 4), none, 0⟩,
   ⟨(some 23), .iaddr 7 (.t 22) (.c (.pv (.int .i64 (2)))), none, 16⟩,
   ⟨(some 24), .load true 7 (.t 23), none, 48⟩,
   ⟨(some 25), .call (.f 102) [.t 24], none, 127⟩,
   ⟨(some 26), .bin .neq (.t 21) (.t 25), none, 255⟩] true)
 (.cond (.t 26)
  (.seq (.reg [⟨(some 27), .faddr (.t 1) 0, none, 0⟩,
    ⟨(some 28), .load true 67 (.t 27), none, 1⟩,
    ⟨none, .store 67 (.t 2) (.t 28), none, 3⟩,
    ⟨(some 3), .mv (.c (.pv (.int .i64 (22)))), none, 7⟩] false)
  (.ret))
  (.skip)))
 (.seq (.reg [⟨(some 30), .load true 67 (.t 1), none, 0⟩,
   ⟨(some 31), .mv (.t 4), none, 0⟩,
   ⟨(some 32), .iaddr 7 (.t 31) (.c (.pv (.int .i64 (0)))), none, 2⟩,
   ⟨(some 33), .load true 7 (.t 32), none, 6⟩,
   ⟨(some 34), .mv (.t 4), none, 0⟩,
   ⟨(some 35), .iaddr 7 (.t 34) (.c (.pv (.int .i64 (1)))), none, 16⟩,
   ⟨(some 36), .faddr (.t 35) 2, none, 48⟩,
   ⟨(some 37), .load false 1 (.t 36), none, 112⟩,
   ⟨(some 38), .mv (.t 4), none, 0⟩,
   ⟨(some 39), .iaddr 7 (.t 38) (.c (.pv (.int .i64 (2)))), none, 256⟩,
   ⟨(some 40), .load true 7 (.t 39), none, 768⟩,
   ⟨(some 41), .call (.f 103) [.t 30, .t 33, .t 37, .t 40], none, 2047⟩,
   ⟨(some 29), .mv (.t 41), none, 4095⟩,
   ⟨(some 42), .extract (.t 29) 0, none, 8191⟩,
   ⟨(some 43), .extract (.t 29) 1, none, 8191⟩,
   ⟨(some 6), .mv (.t 42), none, 16383⟩,
   ⟨(some 5), .mv (.t 43), none, 65535⟩] true)
 (.seq (.seq (.reg [⟨(some 44), .mv (.t 5), none, 0⟩,
   ⟨(some 45), .bin .neq (.t 44) (.c (.pv (.int .i64 (0)))), none, 1⟩] false)
 (.cond (.t 45)
  (.seq (.reg [⟨(some 46), .faddr (.t 1) 0, none, 0⟩,
    ⟨(some 47), .load true 67 (.t 46), none, 1⟩,
    ⟨(some 48), .mv (.t 5), none, 0⟩,
    ⟨none, .store 67 (.t 2) (.t 47), none, 3⟩,
    ⟨(some 3), .mv (.t 48), none, 15⟩] false)
  (.ret))
  (.skip)))
 (.seq (.reg [⟨(some 49), .load true 67 (.t 1), none, 0⟩,
   ⟨(some 50), .mv (.t 6), none, 0⟩,
   ⟨(some 51), .call (.f 97) [.t 49, .c (.pv (.int .i64 (3))), .t 50, .c (.emp 7)], none, 3⟩,
   ⟨(some 52), .extract (.t 51) 0, none, 7⟩,
   ⟨(some 53), .extract (.t 51) 1, none, 7⟩,
   ⟨none, .store 67 (.t 2) (.t 52), none, 31⟩,
   ⟨(some 3), .mv (.t 53), none, 63⟩] false)
 (.ret)))))))⟩
def c59 : RFn := ⟨1, 51, [.cell 2 true 67, .tmp 3],
 .seq (.reg [⟨(some 1), .box 67 (.t 0), none, 0⟩,
   ⟨(some 2), .alloc [.emp 7, .emp 7, .emp 7, .emp 3, .pv (.int .i64 (0)), .pv (.int .i64 (0)), .pv (.int .i64 (0)), .pv (.int .i64 (0)), .pv (.int .i64 (0)), .pv (.int .i64 (0)), .pv (.int .i64 (0)), .emp 7, .pv (.int .i64 (0)), .pv (.int .i64 (0)), .pv (.int .i64 (0)), .pv (.int .i64 (0)), .pv (.int .i64 (0)), .pv (.int .i64 (0)), .pv (.int .i64 (0)), .pv (.int .i64 (0)), .pv (.int .i64 (0)), .pv (.int .i64 (0)), .pv (.int .i64 (0)), .pv (.int .i64 (0)), .pv (.int .i64 (0)), .pv (.int .i64 (0)), .pv (.int .i64 (0)), .pv (.int .i64 (0)), .pv (.int .i64 (0)), .pv (.int .i64 (0)), .pv (.int .i64 (0)), .pv (.int .i64 (0)), .pv (.bool false), .pv (.bool false), .emp 47, .pv (.int .i64 (0)), .pv (.int .i64 (0)), .pv (.int .i64 (0)), .pv (.int .i64 (0)), .pv (.int .i64 (0)), .pv (.int .i64 (0)), .pv (.int .i64 (0)), .pv (.int .i64 (0)), .emp 1, .pv (.int .i64 (0)), .pv (.int .i64 (0)), .emp 2, .pv (.int .i64 (0)), .pv (.bool false), .pv (.int .i64 (0)), .pv (.str []), .pv (.int .i64 (0)), .pv (.int .i64 (0)), .pv (.int .i64 (0)), .pv (.int .i64 (0)), .pv (.int .i64 (0)), .pv (.int .i64 (0)), .pv (.int .i64 (0)), .pv (.int .i64 (0)), .pv (.int .i64 (0)), .pv (.int .i64 (0)), .pv (.int .i64 (0)), .emp 57, .emp 47, .emp 3, .pv (.str []), .pv (.int .i64 (0))], none, 0⟩,
   ⟨(some 3), .mv (.c (.pv (.int .i64 (0)))), none, 0⟩] false)
 (.seq (.reg [⟨(some 8), .load true 67 (.t 1), none, 0⟩,
   ⟨(some 9), .bsl 1 1 [.pv (.int .i64 (0))] [(0, .c (.pv (.int .i64 (3))))], none, 0⟩,
   ⟨(some 10), .call (.f 94) [.t 8, .t 9], none, 3⟩,
   ⟨(some 7), .mv (.t 10), none, 7⟩,
   ⟨(some 11), .extract (.t 7) 0, none, 15⟩,
   ⟨(some 12), .extract (.t 7) 1, none, 15⟩,
   ⟨(some 4), .mv (.t 11), none, 31⟩,
   ⟨(some 5), .mv (.t 12), none, 127⟩] false)
 (.seq (.seq (.reg [⟨(some 13), .mv (.t 5), none, 0⟩,
   ⟨(some 14), .bin .neq (.t 13) (.c (.pv (.int .i64 (0)))), none, 1⟩] false)
 (.cond (.t 14)
  (.seq (.reg [⟨(some 15), .faddr (.t 1) 0, none, 0⟩,
    ⟨(some 16), .load true 67 (.t 15), none, 1⟩,
    ⟨(some 17), .mv (.t 5), none, 0⟩,
    ⟨none, .store 67 (.t 2) (.t 16), none, 3⟩,
    ⟨(some 3), .mv (.t 17), none, 15⟩] false)
  (.ret))
  (.skip)))
 (.seq (.reg [⟨(some 19), .faddr (.t 1) 0, none, 0⟩,
   ⟨(some 20), .faddr (.t 19) 2, none, 1⟩,
   ⟨(some 21), .load false 1 (.t 20), none, 3⟩,
   ⟨(some 22), .mv (.t 4), none, 0⟩,
   ⟨(some 23), .iaddr 7 (.t 22) (.c (.pv (.int .i64 (0)))), none, 8⟩,
   ⟨(some 24), .load true 7 (.t 23), none, 24⟩,
   ⟨(some 25), .call (.f 48) [.t 21, .t 24], none, 63⟩,
   ⟨(some 18), .mv (.t 25), none, 127⟩,
   ⟨(some 26), .extract (.t 18) 0, none, 255⟩,
   ⟨(some 27), .extract (.t 18) 1, none, 255⟩,
   ⟨(some 6), .mv (.t 26), none, 511⟩,
   ⟨(some 5), .mv (.t 27), none, 2047⟩] true)
 (.seq (.seq (.reg [⟨(some 28), .mv (.t 5), none, 0⟩,
   ⟨(some 29), .bin .neq (.t 28) (.c (.pv (.int .i64 (0)))), none, 1⟩] false)
 (.cond (.t 29)
  (.seq (.reg [⟨(some 30), .faddr (.t 1) 0, none, 0⟩,
    ⟨(some 31), .load true 67 (.t 30), none, 1⟩,
    ⟨(some 32), .mv (.t 5), none, 0⟩,
    ⟨none, .store 67 (.t 2) (.t 31), none, 3⟩,
    ⟨(some 3), .mv (.t 32), none, 15⟩] false)
  (.ret))
  (.skip)))
 (.seq (.reg [⟨(some 33), .load true 67 (.t 1), none, 0⟩,
   ⟨(some 34), .faddr (.t 1) 0, none, 0⟩,
   ⟨(some 35), .faddr (.t 34) 2, none, 2⟩,
   ⟨(some 36), .load false 1 (.t 35), none, 6⟩,
   ⟨(some 37), .mv (.t 6), none, 0⟩,
   ⟨(some 38), .mv (.t 6), none, 0⟩,
   ⟨(some 39), .slen (.t 38), none, 32⟩,
   ⟨(some 40), .mv (.t 6), none, 0⟩,
   ⟨(some 41), .slen (.t 40), none, 128⟩,
   ⟨(some 42), .slice 7 (.t 37) none (some (.t 39)) (some (.t 41)), none, 496⟩,
   ⟨(some 43), .mv (.t 4), none, 0⟩,
   ⟨(some 44), .iaddr 7 (.t 43) (.c (.pv (.int .i64 (0)))), none, 1024⟩,
   ⟨(some 45), .load true 7 (.t 44), none, 3072⟩,
   ⟨(some 46), .bsl 7 1 [.pv (.int .i64 (0)), .pv (.bool false), .pv (.int .i64 (0)), .pv (.str []), .pv (.int .i64 (0)), .pv (.int .i64 (0)), .pv (.int .i64 (0))] [(0, .t 45)], none, 7168⟩,
   ⟨(some 47), .append 7 64 (.t 42) (.t 46), none, 16368⟩,
   ⟨(some 48), .call (.f 97) [.t 33, .c (.pv (.int .i64 (1))), .t 36, .t 47], none, 32767⟩,
   ⟨(some 49), .extract (.t 48) 0, none, 65535⟩,
   ⟨(some 50), .extract (.t 48) 1, none, 65535⟩,
   ⟨none, .store 67 (.t 2) (.t 49), none, 262143⟩,
   ⟨(some 3), .mv (.t 50), none, 524287⟩] true)
 (.ret))))))⟩
def c60 : RFn := ⟨1, 68, [.cell 2 true 67, .tmp 3],
 .seq (.reg [⟨(some 1), .box 67 (.t 0), none, 0⟩,
   ⟨(some 2), .alloc [.emp 7, .emp 7, .emp 7, .emp 3, .pv (.int .i64 (0)), .pv (.int .i64 (0)), .pv (.int .i64 (0)), .pv (.int .i64 (0)), .pv (.int .i64 (0)), .pv (.int .i64 (0)), .pv (.int .i64 (0)), .emp 7, .pv (.int .i64 (0)), .pv (.int .i64 (0)), .pv (.int .i64 (0)), .pv (.int .i64 (0)), .pv (.int .i64 (0)), .pv (.int .i64 (0)), .pv (.int .i64 (0)), .pv (.int .i64 (0)), .pv (.int .i64 (0)), .pv (.int .i64 (0)), .pv (.int .i64 (0)), .pv (.int .i64 (0)), .pv (.int .i64 (0)), .pv (.int .i64 (0)), .pv (.int .i64 (0)), .pv (.int .i64 (0)), .pv (.int .i64 (0)), .pv (.int .i64 (0)), .pv (.int .i64 (0)), .pv (.int .i64 (0)), .pv (.bool false), .pv (.bool false), .emp 47, .pv (.int .i64 (0)), .pv (.int .i64 (0)), .pv (.int .i64 (0)), .pv (.int .i64 (0)), .pv (.int .i64 (0)), .pv (.int .i64 (0)), .pv (.int .i64 (0)), .pv (.int .i64 (0)), .emp 1, .pv (.int .i64 (0)), .pv (.int .i64 (0)), .emp 2, .pv (.int .i64 (0)), .pv (.bool false), .pv (.int .i64 (0)), .pv (.str []), .pv (.int .i64 (0)), .pv (.int .i64 (0)), .pv (.int .i64 (0)), .pv (.int .i64 (0)), .pv (.int .i64 (0)), .pv (.int .i64 (0)), .pv (.int .i64 (0)), .pv (.int .i64 (0)), .pv (.int .i64 (0)), .pv (.int .i64 (0)), .pv (.int .i64 (0)), .emp 57, .emp 47, .emp 3, .pv (.str []), .pv (.int .i64 (0))], none, 0⟩,
   ⟨(some 3), .mv (.c (.pv (.int .i64 (0)))), none, 0⟩] false)
 (.seq (.reg [⟨(some 9), .load true 67 (.t 1), none, 0⟩,
   ⟨(some 10), .bsl 1 1 [.pv (.int .i64 (0))] [(0, .c (.pv (.int .i64 (3))))], none, 0⟩,
   ⟨(some 11), .call (.f 94) [.t 9, .t 10], none, 3⟩,
   ⟨(some 8), .mv (.t 11), none, 7⟩,
   ⟨(some 12), .extract (.t 8) 0, none, 15⟩,
   ⟨(some 13), .extract (.t 8) 1, none, 15⟩,
   ⟨(some 4), .mv (.t 12), none, 31⟩,
   ⟨(some 5), .mv (.t 13), none, 127⟩] false)
 (.seq (.seq (.reg [⟨(some 14), .mv (.t 5), none, 0⟩,
   ⟨(some 15), .bin .neq (.t 14) (.c (.pv (.int .i64 (0)))), none, 1⟩] false)
 (.cond (.t 15)
  (.seq (.reg [⟨(some 16), .faddr (.t 1) 0, none, 0⟩,
    ⟨(some 17), .load true 67 (.t 16), none, 1⟩,
    ⟨(some 18), .mv (.t 5), none, 0⟩,
    ⟨none, .store 67 (.t 2) (.t 17), none, 3⟩,
    ⟨(some 3), .mv (.t 18), none, 15⟩] false)
  (.ret))
  (.skip)))
 (.seq (.seq (.reg [⟨(some 19), .mv (.t 4), none, 0⟩,
   ⟨(some 20), .iaddr 7 (.t 19) (.c (.pv (.int .i64 (0)))), none, 1⟩,
   ⟨(some 21), .faddr (.t 20) 0, none, 3⟩,
   ⟨(some 22), .load false 1 (.t 21), none, 7⟩,
   ⟨(some 23), .bin .eql (.t 22) (.c (.pv (.int .i64 (8)))), none, 15⟩] false)
 (.cond (.t 23)
  (.seq (.reg [⟨(some 24), .faddr (.t 1) 0, none, 0⟩,
    ⟨(some 25), .load true 67 (.t 24), none, 1⟩,
    ⟨none, .store 67 (.t 2) (.t 25), none, 3⟩,
    ⟨(some 3), .mv (.c (.pv (.int .i64 (31)))), none, 7⟩] false)
  (.ret))
  (.skip)))
 (.seq (.reg [⟨(some 27), .load true 67 (.t 1), none, 0⟩,
   ⟨(some 28), .mv (.t 4), none, 0⟩,
   ⟨(some 29), .iaddr 7 (.t 28) (.c (.pv (.int .i64 (0)))), none, 2⟩,
   ⟨(some 30), .faddr (.t 29) 6, none, 6⟩,
   ⟨(some 31), .load false 1 (.t 30), none, 14⟩,
   ⟨(some 32), .call (.f 95) [.t 27, .c (.pv (.int .i64 (1))), .t 31], none, 31⟩,
   ⟨(some 26), .mv (.t 32), none, 63⟩,
   ⟨(some 33), .extract (.t 26) 0, none, 127⟩,
   ⟨(some 34), .extract (.t 26) 1, none, 127⟩,
   ⟨(some 6), .mv (.t 33), none, 255⟩,
   ⟨(some 5), .mv (.t 34), none, 1023⟩] true)
 (.seq (.seq (.reg [⟨(some 35), .mv (.t 5), none, 0⟩,
   ⟨(some 36), .bin .neq (.t 35) (.c (.pv (.int .i64 (0)))), none, 1⟩] false)
 (.cond (.t 36)
  (.seq (.reg [⟨(some 37), .faddr (.t 1) 0, none, 0⟩,
    ⟨(some 38), .load true 67 (.t 37), none, 1⟩,
    ⟨(some 39), .mv (.t 5), none, 0⟩,
    ⟨none, .store 67 (.t 2) (.t 38), none, 3⟩,
    ⟨(some 3), .mv (.t 39), none, 15⟩] false)
  (.ret))
  (.skip)))
 (.seq (.reg [⟨(some 41), .faddr (.t 1) 0, none, 0⟩,
   ⟨(some 42), .faddr (.t 41) 2, none, 1⟩,
   ⟨(some 43), .load false 1 (.t 42), none, 3⟩,
   ⟨(some 44), .mv (.t 4), none, 0⟩,
   ⟨(some 45), .iaddr 7 (.t 44) (.c (.pv (.int .i64 (0)))), none, 8⟩,
   ⟨(some 46), .load true 7 (.t 45), none, 24⟩,
   ⟨(some 47), .mv (.t 6), none, 0⟩,
   ⟨(some 48), .call (.f 101) [.t 43, .t 46, .c (.pv (.int .i64 (0))), .t 47], none, 127⟩,
   ⟨(some 40), .mv (.t 48), none, 255⟩,
   ⟨(some 49), .extract (.t 40) 0, none, 511⟩,
   ⟨(some 50), .extract (.t 40) 1, none, 511⟩,
   ⟨(some 7), .mv (.t 49), none, 1023⟩,
   ⟨(some 5), .mv (.t 50), none, 4095⟩] true)
 (.seq (.seq (.reg [⟨(some 51), .mv (.t 5), none, 0⟩,
   ⟨(some 52), .bin .neq (.t 51) (.c (.pv (.int .i64 (0)))), none, 1⟩] false)
 (.cond (.t 52)
  (.seq (.reg [⟨(some 53), .faddr (.t 1) 0, none, 0⟩,
    ⟨(some 54), .load true 67 (.t 53), none, 1⟩,
    ⟨(some 55), .mv (.t 5), none, 0⟩,
    ⟨none, .store 67 (.t 2) (.t 54), none, 3⟩,
    ⟨(some 3), .mv (.t 55), none, 15⟩] false)
  (.ret))
  (.skip)))
 (.seq (.reg [⟨(some 56), .load true 67 (.t 1), none, 0⟩,
   ⟨(some 57), .mv (.t 6), none, 0⟩,
   ⟨(some 58), .slen (.t 57), none, 2⟩,
   ⟨(some 59), .bin .add (.t 58) (.c (.pv (.int .i64 (1)))), none, 6⟩,
   ⟨(some 60), .mv (.t 7), none, 0⟩,
   ⟨(some 61), .mv (.t 4), none, 0⟩,
   ⟨(some 62), .iaddr 7 (.t 61) (.c (.pv (.int .i64 (0)))), none, 32⟩,
   ⟨(some 63), .load true 7 (.t 62), none, 96⟩,
   ⟨(some 64), .bsl 7 1 [.pv (.int .i64 (0)), .pv (.bool false), .pv (.int .i64 (0)), .pv (.str []), .pv (.int .i64 (0)), .pv (.int .i64 (0)), .pv (.int .i64 (0))] [(0, .t 63)], none, 224⟩,
   ⟨(some 65), .call (.f 97) [.t 56, .t 59, .t 60, .t 64], none, 511⟩,
   ⟨(some 66), .extract (.t 65) 0, none, 1023⟩,
   ⟨(some 67), .extract (.t 65) 1, none, 1023⟩,
   ⟨none, .store 67 (.t 2) (.t 66), none, 4095⟩,
   ⟨(some 3), .mv (.t 67), none, 8191⟩] true)
 (.ret)))))))))⟩
def c61 : RFn := ⟨1, 69, [.cell 2 true 67, .tmp 3],
 .seq (.reg [⟨(some 1), .box 67 (.t 0), none, 0⟩,
   ⟨(some 2), .alloc [.emp 7, .emp 7, .emp 7, .emp 3, .pv (.int .i64 (0)), .pv (.int .i64 (0)), .pv (.int .i64 (0)), .pv (.int .i64 (0)), .pv (.int .i64 (0)), .pv (.int .i64 (0)), .pv (.int .i64 (0)), .emp 7, .pv (.int .i64 (0)), .pv (.int .i64 (0)), .pv (.int .i64 (0)), .pv (.int .i64 (0)), .pv (.int .i64 (0)), .pv (.int .i64 (0)), .pv (.int .i64 (0)), .pv (.int .i64 (0)), .pv (.int .i64 (0)), .pv (.int .i64 (0)), .pv (.int .i64 (0)), .pv (.int .i64 (0)), .pv (.int .i64 (0)), .pv (.int .i64 (0)), .pv (.int .i64 (0)), .pv (.int .i64 (0)), .pv (.int .i64 (0)), .pv (.int .i64 (0)), .pv (.int .i64 (0)), .pv (.int .i64 (0)), .pv (.bool false), .pv (.bool false), .emp 47, .pv (.int .i64 (0)), .pv (.int .i64 (0)), .pv (.int .i64 (0)), .pv (.int .i64 (0)), .pv (.int .i64 (0)), .pv (.int .i64 (0)), .pv (.int .i64 (0)), .pv (.int .i64 (0)), .emp 1, .pv (.int .i64 (0)), .pv (.int .i64 (0)), .emp 2, .pv (.int .i64 (0)), .pv (.bool false), .pv (.int .i64 (0)), .pv (.str []), .pv (.int .i64 (0)), .pv (.int .i64 (0)), .pv (.int .i64 (0)), .pv (.int .i64 (0)), .pv (.int .i64 (0)), .pv (.int .i64 (0)), .pv (.int .i64 (0)), .pv (.int .i64 (0)), .pv (.int .i64 (0)), .pv (.int .i64 (0)), .pv (.int .i64 (0)), .emp 57, .emp 47, .emp 3, .pv (.str []), .pv (.int .i64 (0))], none, 0⟩,
   ⟨(some 3), .mv (.c (.pv (.int .i64 (0)))), none, 0⟩] false)
 (.seq (.reg [⟨(some 9), .load true 67 (.t 1), none, 0⟩,
   ⟨(some 10), .bsl 1 2 [.pv (.int .i64 (0))] [(0, .c (.pv (.int .i64 (4)))), (1, .c (.pv (.int .i64 (4))))], none, 0⟩,
   ⟨(some 11), .call (.f 94) [.t 9, .t 10], none, 3⟩,
   ⟨(some 8), .mv (.t 11), none, 7⟩,
   ⟨(some 12), .extract (.t 8) 0, none, 15⟩,
   ⟨(some 13), .extract (.t 8) 1, none, 15⟩,
   ⟨(some 4), .mv (.t 12), none, 31⟩,
   ⟨(some 5), .mv (.t 13), none, 127⟩] false)
 (.seq (.seq (.reg [⟨(some 14), .mv (.t 5), none, 0⟩,
   ⟨(some 15), .bin .neq (.t 14) (.c (.pv (.int .i64 (0)))), none, 1⟩] false)
 (.cond (.t 15)
  (.seq (.reg [⟨(some 16), .faddr (.t 1) 0, none, 0⟩,
    ⟨(some 17), .load true 67 (.t 16), none, 1⟩,
    ⟨(some 18), .mv (.t 5), none, 0⟩,
    ⟨none, .store 67 (.t 2) (.t 17), none, 3⟩,
    ⟨(some 3), .mv (.t 18), none, 15⟩] false)
  (.ret))
  (.skip)))
 (.seq (.seq (.reg [⟨(some 19), .mv (.t 4), none, 0⟩,
   ⟨(some 20), .iaddr 7 (.t 19) (.c (.pv (.int .i64 (0)))), none, 1⟩,
   ⟨(some 21), .load true 7 (.t 20), none, 3⟩,
   ⟨(some 22), .call (.f 102) [.t 21], none, 7⟩,
   ⟨(some 23), .mv (.t 4), none, 0⟩,
   ⟨(some 24), .iaddr 7 (.t 23) (.c (.pv (.int .i64 (1)))), none, 16⟩,
   ⟨(some 25), .load true 7 (.t 24), none, 48⟩,
   ⟨(some 26), .call (.f 102) [.t 25], none, 127⟩,
   ⟨(some 27), .bin .neq (.t 22) (.t 26), none, 255⟩] true)
 (.cond (.t 27)
  (.seq (.reg [⟨(some 28), .faddr (.t 1) 0, none, 0⟩,
    ⟨(some 29), .load true 67 (.t 28), none, 1⟩,
    ⟨none, .store 67 (.t 2) (.t 29), none, 3⟩,
    ⟨(some 3), .mv (.c (.pv (.int .i64 (22)))), none, 7⟩] false)
  (.ret))
  (.skip)))
 (.seq (.reg [⟨(some 31), .load true 67 (.t 1), none, 0⟩,
   ⟨(some 32), .mv (.t 4), none, 0⟩,
   ⟨(some 33), .iaddr 7 (.t 32) (.c (.pv (.int .i64 (1)))), none, 2⟩,
   ⟨(some 34), .load true 7 (.t 33), none, 6⟩,
   ⟨(some 35), .mv (.t 4), none, 0⟩,
   ⟨(some 36), .iaddr 7 (.t 35) (.c (.pv (.int .i64 (0)))), none, 16⟩,
   ⟨(some 37), .load true 7 (.t 36), none, 48⟩,
   ⟨(some 38), .call (.f 103) [.t 31, .t 34, .c (.pv (.int .i64 (0))), .t 37], none, 127⟩,
   ⟨(some 30), .mv (.t 38), none, 255⟩,
   ⟨(some 39), .extract (.t 30) 0, none, 511⟩,
   ⟨(some 40), .extract (.t 30) 1, none, 511⟩,
   ⟨(some 6), .mv (.t 39), none, 1023⟩,
   ⟨(some 5), .mv (.t 40), none, 4095⟩] true)
 (.seq (.seq (.reg [⟨(some 41), .mv (.t 5), none, 0⟩,
   ⟨(some 42), .bin .neq (.t 41) (.c (.pv (.int .i64 (0)))), none, 1⟩] false)
 (.cond (.t 42)
  (.seq (.reg [⟨(some 43), .faddr (.t 1) 0, none, 0⟩,
    ⟨(some 44), .load true 67 (.t 43), none, 1⟩,
    ⟨(some 45), .mv (.t 5), none, 0⟩,
    ⟨none, .store 67 (.t 2) (.t 44), none, 3⟩,
    ⟨(some 3), .mv (.t 45), none, 15⟩] false)
  (.ret))
  (.skip)))
 (.seq (.reg [⟨(some 47), .mv (.t 4), none, 0⟩,
   ⟨(some 48), .iaddr 7 (.t 47) (.c (.pv (.int .i64 (1)))), none, 1⟩,
   ⟨(some 49), .load true 7 (.t 48), none, 3⟩,
   ⟨(some 50), .mv (.t 4), none, 0⟩,
   ⟨(some 51), .iaddr 7 (.t 50) (.c (.pv (.int .i64 (0)))), none, 8⟩,
   ⟨(some 52), .faddr (.t 51) 6, none, 24⟩,
   ⟨(some 53), .load false 1 (.t 52), none, 56⟩,
   ⟨(some 54), .call (.f 99) [.t 49, .c (.pv (.int .i64 (0))), .t 53], none, 127⟩,
   ⟨(some 46), .mv (.t 54), none, 255⟩,
   ⟨(some 55), .extract (.t 46) 0, none, 511⟩,
   ⟨(some 56), .extract (.t 46) 1, none, 511⟩,
   ⟨(some 7), .alloc [.pv (.int .i64 (0)), .pv (.bool false), .pv (.int .i64 (0)), .pv (.str []), .pv (.int .i64 (0)), .pv (.int .i64 (0)), .pv (.int .i64 (0))], none, 0⟩,
   ⟨none, .store 7 (.t 7) (.t 55), none, 3071⟩,
   ⟨(some 5), .mv (.t 56), none, 8191⟩] true)
 (.seq (.seq (.reg [⟨(some 57), .mv (.t 5), none, 0⟩,
   ⟨(some 58), .bin .neq (.t 57) (.c (.pv (.int .i64 (0)))), none, 1⟩] false)
 (.cond (.t 58)
  (.seq (.reg [⟨(some 59), .faddr (.t 1) 0, none, 0⟩,
    ⟨(some 60), .load true 67 (.t 59), none, 1⟩,
    ⟨(some 61), .mv (.t 5), none, 0⟩,
    ⟨none, .store 67 (.t 2) (.t 60), none, 3⟩,
    ⟨(some 3), .mv (.t 61), none, 15⟩] false)
  (.ret))
  (.skip)))
 (.seq (.reg [⟨(some 62), .load true 67 (.t 1), none, 0⟩,
   ⟨(some 63), .mv (.t 6), none, 0⟩,
   ⟨(some 64), .load true 7 (.t 7), none, 0⟩,
   ⟨(some 65), .bsl 7 1 [.pv (.int .i64 (0)), .pv (.bool false), .pv (.int .i64 (0)), .pv (.str []), .pv (.int .i64 (0)), .pv (.int .i64 (0)), .pv (.int .i64 (0))] [(0, .t 64)], none, 4⟩,
   ⟨(some 66), .call (.f 97) [.t 62, .c (.pv (.int .i64 (2))), .t 63, .t 65], none, 15⟩,
   ⟨(some 67), .extract (.t 66) 0, none, 31⟩,
   ⟨(some 68), .extract (.t 66) 1, none, 31⟩,
   ⟨none, .store 67 (.t 2) (.t 67), none, 127⟩,
   ⟨(some 3), .mv (.t 68), none, 255⟩] false)
 (.ret)))))))))⟩
def c62 : RFn := ⟨1, 30, [.cell 2 true 67, .tmp 3],
 .seq (.reg [⟨(some 1), .box 67 (.t 0), none, 0⟩,
   ⟨(some 2), .alloc [.emp 7, .emp 7, .emp 7, .emp 3, .pv (.int .i64 (0)), .pv (.int .i64 (0)), .pv (.int .i64 (0)), .pv (.int .i64 (0)), .pv (.int .i64 (0)), .pv (.int .i64 (0)), .pv (.int .i64 (0)), .emp 7, .pv (.int .i64 (0)), .pv (.int .i64 (0)), .pv (.int .i64 (0)), .pv (.int .i64 (0)), .pv (.int .i64 (0)), .pv (.int .i64 (0)), .pv (.int .i64 (0)), .pv (.int .i64 (0)), .pv (.int .i64 (0)), .pv (.int .i64 (0)), .pv (.int .i64 (0)), .pv (.int .i64 (0)), .pv (.int .i64 (0)), .pv (.int .i64 (0)), .pv (.int .i64 (0)), .pv (.int .i64 (0)), .pv (.int .i64 (0)), .pv (.int .i64 (0)), .pv (.int .i64 (0)), .pv (.int .i64 (0)), .pv (.bool false), .pv (.bool false), .emp 47, .pv (.int .i64 (0)), .pv (.int .i64 (0)), .pv (.int .i64 (0)), .pv (.int .i64 (0)), .pv (.int .i64 (0)), .pv (.int .i64 (0)), .pv (.int .i64 (0)), .pv (.int .i64 (0)), .emp 1, .pv (.int .i64 (0)), .pv (.int .i64 (0)), .emp 2, .pv (.int .i64 (0)), .pv (.bool false), .pv (.int .i64 (0)), .pv (.str []), .pv (.int .i64 (0)), .pv (.int .i64 (0)), .pv (.int .i64 (0)), .pv (.int .i64 (0)), .pv (.int .i64 (0)), .pv (.int .i64 (0)), .pv (.int .i64 (0)), .pv (.int .i64 (0)), .pv (.int .i64 (0)), .pv (.int .i64 (0)), .pv (.int .i64 (0)), .emp 57, .emp 47, .emp 3, .pv (.str []), .pv (.int .i64 (0))], none, 0⟩,
   ⟨(some 3), .mv (.c (.pv (.int .i64 (0)))), none, 0⟩] false)
 (.seq (.reg [⟨(some 9), .load true 67 (.t 1), none, 0⟩,
   ⟨(some 10), .call (.f 104) [.t 9], none, 1⟩,
   ⟨(some 8), .mv (.t 10), none, 3⟩,
   ⟨(some 11), .extract (.t 8) 0, none, 7⟩,
   ⟨(some 12), .extract (.t 8) 1, none, 7⟩,
   ⟨(some 13), .extract (.t 8) 2, none, 7⟩,
   ⟨(some 14), .extract (.t 8) 3, none, 7⟩,
   ⟨(some 4), .alloc [.pv (.int .i64 (0)), .pv (.bool false), .pv (.int .i64 (0)), .pv (.str []), .pv (.int .i64 (0)), .pv (.int .i64 (0)), .pv (.int .i64 (0))], none, 0⟩,
   ⟨none, .store 7 (.t 4) (.t 11), none, 143⟩,
   ⟨(some 5), .mv (.t 12), none, 415⟩,
   ⟨(some 6), .mv (.t 13), none, 959⟩,
   ⟨(some 7), .mv (.t 14), none, 2047⟩] false)
 (.seq (.seq (.reg [⟨(some 15), .mv (.t 7), none, 0⟩,
   ⟨(some 16), .bin .neq (.t 15) (.c (.pv (.int .i64 (0)))), none, 1⟩] false)
 (.cond (.t 16)
  (.seq (.reg [⟨(some 17), .faddr (.t 1) 0, none, 0⟩,
    ⟨(some 18), .load true 67 (.t 17), none, 1⟩,
    ⟨(some 19), .mv (.t 7), none, 0⟩,
    ⟨none, .store 67 (.t 2) (.t 18), none, 3⟩,
    ⟨(some 3), .mv (.t 19), none, 15⟩] false)
  (.ret))
  (.skip)))
 (.seq (.reg [⟨(some 20), .load true 67 (.t 1), none, 0⟩,
   ⟨(some 21), .load true 7 (.t 4), none, 0⟩,
   ⟨(some 22), .mv (.t 5), none, 0⟩,
   ⟨(some 23), .mv (.t 6), none, 0⟩,
   ⟨(some 24), .call (.f 106) [.t 22, .t 23], none, 12⟩,
   ⟨(some 25), .mv (.t 6), none, 0⟩,
   ⟨(some 26), .strlen (.t 25), none, 32⟩,
   ⟨(some 27), .call (.f 105) [.t 20, .t 21, .t 24, .t 26, .c (.pv (.bool true))], none, 127⟩,
   ⟨(some 28), .extract (.t 27) 0, none, 255⟩,
   ⟨(some 29), .extract (.t 27) 1, none, 255⟩,
   ⟨none, .store 67 (.t 2) (.t 28), none, 1023⟩,
   ⟨(some 3), .mv (.t 29), none, 2047⟩] true)
 (.ret))))⟩
def c63 : RFn := ⟨1, 36, [.cell 2 true 67, .tmp 3],
 .seq (.reg [⟨(some 1), .box 67 (.t 0), none, 0⟩,
   ⟨(some 2), .alloc [.emp 7, .emp 7, .emp 7, .emp 3, .pv (.int .i64 (0)), .pv (.int .i64 (0)), .pv (.int .i64 (0)), .pv (.int .i64 (0)), .pv (.int .i64 (0)), .pv (.int .i64 (0)), .pv (.int .i64 (0)), .emp 7, .pv (.int .i64 (0)), .pv (.int .i64 (0)), .pv (.int .i64 (0)), .pv (.int .i64 (0)), .pv (.int .i64 (0)), .pv (.int .i64 (0)), .pv (.int .i64 (0)), .pv (.int .i64 (0)), .pv (.int .i64 (0)), .pv (.int .i64 (0)), .pv (.int .i64 (0)), .pv (.int .i64 (0)), .pv (.int .i64 (0)), .pv (.int .i64 (0)), .pv (.int .i64 (0)), .pv (.int .i64 (0)), .pv (.int .i64 (0)), .pv (.int .i64 (0)), .pv (.int .i64 (0)), .pv (.int .i64 (0)), .pv (.bool false), .pv (.bool false), .emp 47, .pv (.int .i64 (0)), .pv (.int .i64 (0)), .pv (.int .i64 (0)), .pv (.int .i64 (0)), .pv (.int .i64 (0)), .pv (.int .i64 (0)), .pv (.int .i64 (0)), .pv (.int .i64 (0)), .emp 1, .pv (.int .i64 (0)), .pv (.int .i64 (0)), .emp 2, .pv (.int .i64 (0)), .pv (.bool false), .pv (.int .i64 (0)), .pv (.str []), .pv (.int .i64 (0)), .pv (.int .i64 (0)), .pv (.int .i64 (0)), .pv (.int .i64 (0)), .pv (.int .i64 (0)), .pv (.int .i64 (0)), .pv (.int .i64 (0)), .pv (.int .i64 (0)), .pv (.int .i64 (0)), .pv (.int .i64 (0)), .pv (.int .i64 (0)), .emp 57, .emp 47, .emp 3, .pv (.str []), .pv (.int .i64 (0))], none, 0⟩,
   ⟨(some 3), .mv (.c (.pv (.int .i64 (0)))), none, 0⟩] false)
 (.seq (.reg [⟨(some 9), .load true 67 (.t 1), none, 0⟩,
   ⟨(some 10), .call (.f 104) [.t 9], none, 1⟩,
   ⟨(some 8), .mv (.t 10), none, 3⟩,
   ⟨(some 11), .extract (.t 8) 0, none, 7⟩,
   ⟨(some 12), .extract (.t 8) 1, none, 7⟩,
   ⟨(some 13), .extract (.t 8) 2, none, 7⟩,
   ⟨(some 14), .extract (.t 8) 3, none, 7⟩,
   ⟨(some 4), .alloc [.pv (.int .i64 (0)), .pv (.bool false), .pv (.int .i64 (0)), .pv (.str []), .pv (.int .i64 (0)), .pv (.int .i64 (0)), .pv (.int .i64 (0))], none, 0⟩,
   ⟨none, .store 7 (.t 4) (.t 11), none, 143⟩,
   ⟨(some 5), .mv (.t 12), none, 415⟩,
   ⟨(some 6), .mv (.t 13), none, 959⟩,
   ⟨(some 7), .mv (.t 14), none, 2047⟩] false)
 (.seq (.seq (.reg [⟨(some 15), .mv (.t 7), none, 0⟩,
   ⟨(some 16), .bin .neq (.t 15) (.c (.pv (.int .i64 (0)))), none, 1⟩] false)
 (.cond (.t 16)
  (.seq (.reg [⟨(some 17), .faddr (.t 1) 0, none, 0⟩,
    ⟨(some 18), .load true 67 (.t 17), none, 1⟩,
    ⟨(some 19), .mv (.t 7), none, 0⟩,
    ⟨none, .store 67 (.t 2) (.t 18), none, 3⟩,
    ⟨(some 3), .mv (.t 19), none, 15⟩] false)
  (.ret))
  (.skip)))
 (.seq (.seq (.reg [⟨(some 20), .mv (.t 5), none, 0⟩,
   ⟨(some 21), .mv (.t 6), none, 0⟩,
   ⟨(some 22), .call (.f 107) [.t 20, .t 21], none, 3⟩,
   ⟨(some 23), .not (.t 22), none, 7⟩] false)
 (.cond (.t 23)
  (.seq (.reg [⟨(some 24), .load true 67 (.t 1), none, 0⟩,
    ⟨(some 25), .load true 7 (.t 4), none, 0⟩,
    ⟨(some 26), .call (.f 105) [.t 24, .t 25, .c (.pv (.int .i64 (-1))), .c (.pv (.int .i64 (0))), .c (.pv (.bool false))], none, 3⟩,
    ⟨(some 27), .extract (.t 26) 0, none, 7⟩,
    ⟨(some 28), .extract (.t 26) 1, none, 7⟩,
    ⟨none, .store 67 (.t 2) (.t 27), none, 31⟩,
    ⟨(some 3), .mv (.t 28), none, 63⟩] false)
  (.ret))
  (.skip)))
 (.seq (.reg [⟨(some 29), .load true 67 (.t 1), none, 0⟩,
   ⟨(some 30), .load true 7 (.t 4), none, 0⟩,
   ⟨(some 31), .mv (.t 6), none, 0⟩,
   ⟨(some 32), .strlen (.t 31), none, 4⟩,
   ⟨(some 33), .call (.f 105) [.t 29, .t 30, .c (.pv (.int .i64 (0))), .t 32, .c (.pv (.bool false))], none, 15⟩,
   ⟨(some 34), .extract (.t 33) 0, none, 31⟩,
   ⟨(some 35), .extract (.t 33) 1, none, 31⟩,
   ⟨none, .store 67 (.t 2) (.t 34), none, 127⟩,
   ⟨(some 3), .mv (.t 35), none, 255⟩] false)
 (.ret)))))⟩
def c64 : RFn := ⟨1, 11, [.cell 2 true 67, .tmp 3],
 .seq (.reg [⟨(some 1), .box 67 (.t 0), none, 0⟩,
   ⟨(some 2), .alloc [.emp 7, .emp 7, .emp 7, .emp 3, .pv (.int .i64 (0)), .pv (.int .i64 (0)), .pv (.int .i64 (0)), .pv (.int .i64 (0)), .pv (.int .i64 (0)), .pv (.int .i64 (0)), .pv (.int .i64 (0)), .emp 7, .pv (.int .i64 (0)), .pv (.int .i64 (0)), .pv (.int .i64 (0)), .pv (.int .i64 (0)), .pv (.int .i64 (0)), .pv (.int .i64 (0)), .pv (.int .i64 (0)), .pv (.int .i64 (0)), .pv (.int .i64 (0)), .pv (.int .i64 (0)), .pv (.int .i64 (0)), .pv (.int .i64 (0)), .pv (.int .i64 (0)), .pv (.int .i64 (0)), .pv (.int .i64 (0)), .pv (.int .i64 (0)), .pv (.int .i64 (0)), .pv (.int .i64 (0)), .pv (.int .i64 (0)), .pv (.int .i64 (0)), .pv (.bool false), .pv (.bool false), .emp 47, .pv (.int .i64 (0)), .pv (.int .i64 (0)), .pv (.int .i64 (0)), .pv (.int .i64 (0)), .pv (.int .i64 (0)), .pv (.int .i64 (0)), .pv (.int .i64 (0)), .pv (.int .i64 (0)), .emp 1, .pv (.int .i64 (0)), .pv (.int .i64 (0)), .emp 2, .pv (.int .i64 (0)), .pv (.bool false), .pv (.int .i64 (0)), .pv (.str []), .pv (.int .i64 (0)), .pv (.int .i64 (0)), .pv (.int .i64 (0)), .pv (.int .i64 (0)), .pv (.int .i64 (0)), .pv (.int .i64 (0)), .pv (.int .i64 (0)), .pv (.int .i64 (0)), .pv (.int .i64 (0)), .pv (.int .i64 (0)), .pv (.int .i64 (0)), .emp 57, .emp 47, .emp 3, .pv (.str []), .pv (.int .i64 (0))], none, 0⟩,
   ⟨(some 3), .mv (.c (.pv (.int .i64 (0)))), none, 0⟩] false)
 (.seq (.reg [⟨(some 4), .faddr (.t 1) 0, none, 0⟩,
   ⟨(some 5), .load true 67 (.t 4), none, 1⟩,
   ⟨(some 6), .build [.pv (.int .i64 (0)), .pv (.bool false), .pv (.int .i64 (0)), .pv (.str []), .pv (.int .i64 (0)), .pv (.int .i64 (0)), .pv (.int .i64 (0))] [(0, 1, .c (.pv (.int .i64 (1))))], none, 0⟩,
   ⟨(some 7), .bsl 7 1 [.pv (.int .i64 (0)), .pv (.bool false), .pv (.int .i64 (0)), .pv (.str []), .pv (.int .i64 (0)), .pv (.int .i64 (0)), .pv (.int .i64 (0))] [(0, .t 6)], none, 4⟩,
   ⟨(some 8), .call (.f 76) [.t 5, .t 7], none, 15⟩,
   ⟨(some 9), .extract (.t 8) 0, none, 31⟩,
   ⟨(some 10), .extract (.t 8) 1, none, 31⟩,
   ⟨none, .store 67 (.t 2) (.t 9), none, 127⟩,
   ⟨(some 3), .mv (.t 10), none, 255⟩] false)
 (.ret))⟩
def c65 : RFn := ⟨1, 59, [.cell 2 true 67, .tmp 3],
 .seq (.reg [⟨(some 1), .box 67 (.t 0), none, 0⟩,
   ⟨(some 2), .alloc [.emp 7, .emp 7, .emp 7, .emp 3, .pv (.int .i64 (0)), .pv (.int .i64 (0)), .pv (.int .i64 (0)), .pv (.int .i64 (0)), .pv (.int .i64 (0)), .pv (.int .i64 (0)), .pv (.int .i64 (0)), .emp 7, .pv (.int .i64 (0)), .pv (.int .i64 (0)), .pv (.int .i64 (0)), .pv (.int .i64 (0)), .pv (.int .i64 (0)), .pv (.int .i64 (0)), .pv (.int .i64 (0)), .pv (.int .i64 (0)), .pv (.int .i64 (0)), .pv (.int .i64 (0)), .pv (.int .i64 (0)), .pv (.int .i64 (0)), .pv (.int .i64 (0)), .pv (.int .i64 (0)), .pv (.int .i64 (0)), .pv (.int .i64 (0)), .pv (.int .i64 (0)), .pv (.int .i64 (0)), .pv (.int .i64 (0)), .pv (.int .i64 (0)), .pv (.bool false), .pv (.bool false), .emp 47, .pv (.int .i64 (0)), .pv (.int .i64 (0)), .pv (.int .i64 (0)), .pv (.int .i64 (0)), .pv (.int .i64 (0)), .pv (.int .i64 (0)), .pv (.int .i64 (0)), .pv (.int .i64 (0)), .emp 1, .pv (.int .i64 (0)), .pv (.int .i64 (0)), .emp 2, .pv (.int .i64 (0)), .pv (.bool false), .pv (.int .i64 (0)), .pv (.str []), .pv (.int .i64 (0)), .pv (.int .i64 (0)), .pv (.int .i64 (0)), .pv (.int .i64 (0)), .pv (.int .i64 (0)), .pv (.int .i64 (0)), .pv (.int .i64 (0)), .pv (.int .i64 (0)), .pv (.int .i64 (0)), .pv (.int .i64 (0)), .pv (.int .i64 (0)), .emp 57, .emp 47, .emp 3, .pv (.str []), .pv (.int .i64 (0))], none, 0⟩,
   ⟨(some 3), .mv (.c (.pv (.int .i64 (0)))), none, 0⟩] false)
 (.seq (.reg [⟨(some 4), .mv (.c (.pv (.int .i64 (0)))), none, 0⟩] false)
 (.seq (.block 0
  (.loop [1, 2, 4]
   (.seq (.seq (.reg [⟨(some 7), .mv (.t 4), none, 0⟩,
     ⟨(some 8), .faddr (.t 1) 0, none, 0⟩,
     ⟨(some 9), .faddr (.t 8) 0, none, 2⟩,
     ⟨(some 10), .load false 1 (.t 9), none, 6⟩,
     ⟨(some 11), .slen (.t 10), none, 14⟩,
     ⟨(some 12), .bin .lss (.t 7) (.t 11), none, 31⟩,
     ⟨(some 13), .mv (.t 12), none, 63⟩,
     ⟨(some 14), .faddr (.t 1) 0, (some (13, true)), 127⟩,
     ⟨(some 15), .faddr (.t 14) 0, (some (13, true)), 255⟩,
     ⟨(some 16), .load false 1 (.t 15), (some (13, true)), 511⟩,
     ⟨(some 17), .faddr (.t 1) 0, (some (13, true)), 127⟩,
     ⟨(some 18), .faddr (.t 17) 0, (some (13, true)), 1151⟩,
     ⟨(some 19), .load false 1 (.t 18), (some (13, true)), 3199⟩,
     ⟨(some 20), .slen (.t 19), (some (13, true)), 7295⟩,
     ⟨(some 21), .bin .sub (.t 20) (.c (.pv (.int .i64 (1)))), (some (13, true)), 15487⟩,
     ⟨(some 22), .mv (.t 4), (some (13, true)), 127⟩,
     ⟨(some 23), .bin .sub (.t 21) (.t 22), (some (13, true)), 64639⟩,
     ⟨(some 24), .iaddr 7 (.t 16) (.t 23), (some (13, true)), 131071⟩,
     ⟨(some 25), .faddr (.t 24) 0, (some (13, true)), 262143⟩,
     ⟨(some 26), .load false 1 (.t 25), (some (13, true)), 524287⟩,
     ⟨(some 27), .bin .neq (.t 26) (.c (.pv (.int .i64 (1)))), (some (13, true)), 1048575⟩,
     ⟨(some 28), .pick (.t 13) (.t 27) (.c (.pv (.bool false))), none, 2097151⟩] false)
   (.cond (.t 28)
    (.skip)
    (.exit 0)))
   (.block 1
    (.reg [⟨(some 29), .mv (.t 4), none, 0⟩,
      ⟨(some 30), .bin .add (.t 29) (.c (.pv (.int .i64 (1)))), none, 1⟩,
      ⟨(some 4), .mv (.t 30), none, 3⟩] false)))))
 (.seq (.seq (.reg [⟨(some 31), .mv (.t 4), none, 0⟩,
   ⟨(some 32), .faddr (.t 1) 0, none, 0⟩,
   ⟨(some 33), .faddr (.t 32) 0, none, 2⟩,
   ⟨(some 34), .load false 1 (.t 33), none, 6⟩,
   ⟨(some 35), .slen (.t 34), none, 14⟩,
   ⟨(some 36), .bin .eql (.t 31) (.t 35), none, 31⟩] false)
 (.cond (.t 36)
  (.seq (.reg [⟨(some 37), .faddr (.t 1) 0, none, 0⟩,
    ⟨(some 38), .load true 67 (.t 37), none, 1⟩,
    ⟨none, .store 67 (.t 2) (.t 38), none, 3⟩,
    ⟨(some 3), .mv (.c (.pv (.int .i64 (32)))), none, 7⟩] false)
  (.ret))
  (.skip)))
 (.seq (.reg [⟨(some 40), .load true 67 (.t 1), none, 0⟩,
   ⟨(some 41), .mv (.t 4), none, 0⟩,
   ⟨(some 42), .call (.f 95) [.t 40, .c (.pv (.int .i64 (0))), .t 41], none, 3⟩,
   ⟨(some 39), .mv (.t 42), none, 7⟩,
   ⟨(some 43), .extract (.t 39) 0, none, 15⟩,
   ⟨(some 44), .extract (.t 39) 1, none, 15⟩,
   ⟨(some 5), .mv (.t 43), none, 31⟩,
   ⟨(some 6), .mv (.t 44), none, 127⟩] false)
 (.seq (.seq (.reg [⟨(some 45), .mv (.t 6), none, 0⟩,
   ⟨(some 46), .bin .neq (.t 45) (.c (.pv (.int .i64 (0)))), none, 1⟩] false)
 (.cond (.t 46)
  (.seq (.reg [⟨(some 47), .faddr (.t 1) 0, none, 0⟩,
    ⟨(some 48), .load true 67 (.t 47), none, 1⟩,
    ⟨(some 49), .mv (.t 6), none, 0⟩,
    ⟨none, .store 67 (.t 2) (.t 48), none, 3⟩,
    ⟨(some 3), .mv (.t 49), none, 15⟩] false)
  (.ret))
  (.skip)))
 (.seq (.reg [⟨(some 50), .load true 67 (.t 1), none, 0⟩,
   ⟨(some 51), .mv (.t 4), none, 0⟩,
   ⟨(some 52), .bin .add (.t 51) (.c (.pv (.int .i64 (1)))), none, 2⟩,
   ⟨(some 53), .mv (.t 4), none, 0⟩,
   ⟨(some 54), .build [.pv (.int .i64 (0)), .pv (.bool false), .pv (.int .i64 (0)), .pv (.str []), .pv (.int .i64 (0)), .pv (.int .i64 (0)), .pv (.int .i64 (0))] [(0, 1, .c (.pv (.int .i64 (7)))), (6, 1, .t 53)], none, 8⟩,
   ⟨(some 55), .mv (.t 5), none, 0⟩,
   ⟨(some 56), .call (.f 92) [.t 50, .t 52, .t 54, .t 55, .f 93], none, 63⟩,
   ⟨(some 57), .extract (.t 56) 0, none, 127⟩,
   ⟨(some 58), .extract (.t 56) 1, none, 127⟩,
   ⟨none, .store 67 (.t 2) (.t 57), none, 511⟩,
   ⟨(some 3), .mv (.t 58), none, 1023⟩] false)
 (.ret)))))))⟩
def c66 : RFn := ⟨2, 26, [.tmp 4],
 .seq (.reg [⟨(some 4), .mv (.c (.pv (.bool false))), none, 0⟩] false)
 (.seq (.seq (.reg [⟨(some 6), .mv (.t 0), none, 0⟩,
   ⟨(some 7), .slen (.t 6), none, 1⟩,
   ⟨(some 8), .mv (.t 1), none, 0⟩,
   ⟨(some 9), .slen (.t 8), none, 4⟩,
   ⟨(some 10), .bin .neq (.t 7) (.t 9), none, 15⟩] false)
 (.cond (.t 10)
  (.seq (.reg [⟨(some 4), .mv (.c (.pv (.bool false))), none, 0⟩] false)
  (.ret))
  (.skip)))
 (.seq (.seq (.reg [⟨(some 5), .mv (.c (.pv (.int .i64 (0)))), none, 0⟩] false)
 (.block 0
  (.loop [0, 1, 5]
   (.seq (.seq (.reg [⟨(some 11), .mv (.t 5), none, 0⟩,
     ⟨(some 12), .mv (.t 0), none, 0⟩,
     ⟨(some 13), .slen (.t 12), none, 2⟩,
     ⟨(some 14), .bin .lss (.t 11) (.t 13), none, 7⟩] false)
   (.cond (.t 14)
    (.skip)
    (.exit 0)))
   (.seq (.block 1
    (.seq (.reg [⟨(some 17), .mv (.t 0), none, 0⟩,
      ⟨(some 18), .mv (.t 5), none, 0⟩,
      ⟨(some 19), .iaddr 7 (.t 17) (.t 18), none, 3⟩,
      ⟨(some 20), .load true 7 (.t 19), none, 7⟩,
      ⟨(some 21), .mv (.t 1), none, 0⟩,
      ⟨(some 22), .mv (.t 5), none, 0⟩,
      ⟨(some 23), .iaddr 7 (.t 21) (.t 22), none, 48⟩,
      ⟨(some 24), .load true 7 (.t 23), none, 112⟩,
      ⟨(some 25), .eqs true [0, 1, 0, 2, 0, 0, 0] (.t 20) (.t 24), none, 255⟩] true)
    (.cond (.t 25)
     (.seq (.reg [⟨(some 4), .mv (.c (.pv (.bool false))), none, 0⟩] false)
     (.ret))
     (.skip))))
   (.reg [⟨(some 15), .mv (.t 5), none, 0⟩,
     ⟨(some 16), .bin .add (.t 15) (.c (.pv (.int .i64 (1)))), none, 1⟩,
     ⟨(some 5), .mv (.t 16), none, 3⟩] false))))))
 (.seq (.reg [⟨(some 4), .mv (.c (.pv (.bool true))), none, 0⟩] false)
 (.ret))))⟩
end Go.Ab.Ck
