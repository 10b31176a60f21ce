/- The code of functions of the program, printed by a program. Under: nothing. -/
import Derived.Test.YtngmifmcohmfmaaDoorTdNm
namespace Go.Ab.Td
open Go.Ab
def c_law11_HeapKeeps : RFn := ⟨4, 235, [.tmp 8],
 .seq (.reg [⟨(some 4), .box 3 (.t 0), none, 0⟩,
 ⟨(some 5), .box 20 (.t 1), none, 0⟩,
 ⟨(some 8), .mv (.c (.pv (.bool false))), none, 0⟩] false)
 (.seq (.seq (.reg [⟨(some 32), .call (.f n_law11_wakes) [], none, 0⟩,
 ⟨(some 33), .not (.t 32), none, 1⟩] false)
 (.cond (.t 33)
 (.seq (.reg [⟨(some 8), .mv (.c (.pv (.bool false))), none, 0⟩] false)
 (.ret))
 (.skip)))
 (.seq (.reg [⟨(some 34), .load true 3 (.t 4), none, 0⟩,
 ⟨(some 35), .call (.f n_ref11_Draft_Heap) [.t 34], none, 1⟩,
 ⟨(some 9), .mv (.t 35), none, 3⟩] false)
 (.seq (.seq (.reg [⟨(some 36), .mv (.t 9), none, 0⟩,
 ⟨(some 37), .call (.f n_heap_Check) [.t 36], none, 1⟩,
 ⟨(some 38), .bin .neq (.t 37) (.c (.pv (.int .i64 (0)))), none, 3⟩] false)
 (.cond (.t 38)
 (.seq (.reg [⟨(some 8), .mv (.c (.pv (.bool false))), none, 0⟩] false)
 (.ret))
 (.skip)))
 (.seq (.reg [⟨(some 39), .paddr 4 5 (.t 5) (.c (.pv (.int .i64 (0)))), none, 0⟩,
 ⟨(some 40), .load true 5 (.t 39), none, 1⟩,
 ⟨(some 41), .mv (.t 9), none, 0⟩,
 ⟨(some 42), .call (.f n_ref11_Word_Obj) [.t 40, .t 41], none, 7⟩,
 ⟨(some 43), .paddr 4 5 (.t 5) (.c (.pv (.int .i64 (1)))), none, 0⟩,
 ⟨(some 44), .load true 5 (.t 43), none, 16⟩,
 ⟨(some 45), .mv (.t 9), none, 0⟩,
 ⟨(some 46), .call (.f n_ref11_Word_Obj) [.t 44, .t 45], none, 127⟩,
 ⟨(some 47), .paddr 4 5 (.t 5) (.c (.pv (.int .i64 (2)))), none, 0⟩,
 ⟨(some 48), .load true 5 (.t 47), none, 256⟩,
 ⟨(some 49), .mv (.t 9), none, 0⟩,
 ⟨(some 50), .call (.f n_ref11_Word_Obj) [.t 48, .t 49], none, 2047⟩,
 ⟨(some 10), .alloc [.pv (.int .i64 (0)), .pv (.bool false), .pv (.int .i64 (0)), .pv (.str []), .pv (.int .i64 (0)), .pv (.int .i64 (0)), .pv (.int .i64 (0))], none, 0⟩,
 ⟨(some 11), .alloc [.pv (.int .i64 (0)), .pv (.bool false), .pv (.int .i64 (0)), .pv (.str []), .pv (.int .i64 (0)), .pv (.int .i64 (0)), .pv (.int .i64 (0))], none, 0⟩,
 ⟨(some 12), .alloc [.pv (.int .i64 (0)), .pv (.bool false), .pv (.int .i64 (0)), .pv (.str []), .pv (.int .i64 (0)), .pv (.int .i64 (0)), .pv (.int .i64 (0))], none, 0⟩,
 ⟨none, .store 7 (.t 10) (.t 42), none, 32767⟩,
 ⟨none, .store 7 (.t 11) (.t 46), none, 65535⟩,
 ⟨none, .store 7 (.t 12) (.t 50), none, 131071⟩] true)
 (.seq (.seq (.reg [⟨(some 52), .mv (.t 9), none, 0⟩,
 ⟨(some 53), .paddr 4 5 (.t 5) (.c (.pv (.int .i64 (3)))), none, 0⟩,
 ⟨(some 54), .load true 5 (.t 53), none, 2⟩,
 ⟨(some 55), .mv (.t 9), none, 0⟩,
 ⟨(some 56), .call (.f n_ref11_Word_Cell) [.t 54, .t 55], none, 14⟩,
 ⟨(some 57), .call (.f n_heap_New) [.t 52, .t 56], none, 31⟩,
 ⟨(some 51), .mv (.t 57), none, 63⟩,
 ⟨(some 58), .extract (.t 51) 0, none, 127⟩,
 ⟨(some 59), .extract (.t 51) 1, none, 127⟩,
 ⟨(some 60), .extract (.t 51) 2, none, 127⟩,
 ⟨(some 13), .mv (.t 58), none, 255⟩,
 ⟨(some 14), .mv (.t 59), none, 1535⟩,
 ⟨(some 15), .mv (.t 60), none, 4095⟩] false)
 (.seq (.reg [⟨(some 61), .mv (.t 15), none, 0⟩,
 ⟨(some 62), .bin .neq (.t 61) (.c (.pv (.int .i64 (0)))), none, 1⟩,
 ⟨(some 63), .mv (.t 62), none, 3⟩,
 ⟨(some 64), .mv (.t 13), (some (63, false)), 7⟩,
 ⟨(some 65), .call (.f n_heap_Check) [.t 64], (some (63, false)), 15⟩,
 ⟨(some 66), .bin .neq (.t 65) (.c (.pv (.int .i64 (0)))), (some (63, false)), 31⟩,
 ⟨(some 67), .pick (.t 63) (.c (.pv (.bool true))) (.t 66), none, 63⟩,
 ⟨(some 68), .mv (.t 67), none, 127⟩,
 ⟨(some 69), .mv (.t 14), (some (68, false)), 255⟩,
 ⟨(some 70), .mv (.t 9), (some (68, false)), 255⟩,
 ⟨(some 71), .slen (.t 70), (some (68, false)), 767⟩,
 ⟨(some 72), .bin .neq (.t 69) (.t 71), (some (68, false)), 2047⟩,
 ⟨(some 73), .pick (.t 68) (.c (.pv (.bool true))) (.t 72), none, 4095⟩,
 ⟨(some 74), .mv (.t 73), none, 8191⟩,
 ⟨(some 75), .mv (.t 13), (some (74, false)), 16383⟩,
 ⟨(some 76), .slen (.t 75), (some (74, false)), 32767⟩,
 ⟨(some 77), .mv (.t 14), (some (74, false)), 16383⟩,
 ⟨(some 78), .bin .add (.t 77) (.c (.pv (.int .i64 (1)))), (some (74, false)), 81919⟩,
 ⟨(some 79), .bin .neq (.t 76) (.t 78), (some (74, false)), 262143⟩,
 ⟨(some 80), .pick (.t 74) (.c (.pv (.bool true))) (.t 79), none, 524287⟩,
 ⟨(some 81), .mv (.t 80), none, 1048575⟩,
 ⟨(some 82), .mv (.t 13), (some (81, false)), 2097151⟩,
 ⟨(some 83), .mv (.t 14), (some (81, false)), 2097151⟩,
 ⟨(some 84), .slice 7 (.t 82) none (some (.t 83)) none, (some (81, false)), 8388607⟩,
 ⟨(some 85), .mv (.t 9), (some (81, false)), 2097151⟩,
 ⟨(some 86), .call (.f n_ref11_Same) [.t 84, .t 85], (some (81, false)), 33554431⟩,
 ⟨(some 87), .not (.t 86), (some (81, false)), 67108863⟩,
 ⟨(some 88), .pick (.t 81) (.c (.pv (.bool true))) (.t 87), none, 134217727⟩] false)
 (.cond (.t 88)
 (.seq (.reg [⟨(some 8), .mv (.c (.pv (.bool false))), none, 0⟩] false)
 (.ret))
 (.skip))))
 (.seq (.reg [⟨(some 89), .mv (.t 3), none, 0⟩,
 ⟨(some 90), .mv (.t 3), none, 0⟩,
 ⟨(some 91), .strlen (.t 90), none, 2⟩,
 ⟨(some 92), .mm false [.t 91, .c (.pv (.int .i64 (4)))], none, 6⟩,
 ⟨(some 93), .sslice (.t 89) none (some (.t 92)), none, 15⟩,
 ⟨(some 3), .mv (.t 93), none, 31⟩] false)
 (.seq (.seq (.reg [⟨(some 95), .mv (.t 9), none, 0⟩,
 ⟨(some 96), .load true 7 (.t 10), none, 0⟩,
 ⟨(some 97), .mv (.t 2), none, 0⟩,
 ⟨(some 98), .bin .rem (.t 97) (.c (.pv (.int .u8 (5)))), none, 4⟩,
 ⟨(some 99), .conv .i64 (.t 98), none, 12⟩,
 ⟨(some 100), .mv (.t 3), none, 0⟩,
 ⟨(some 101), .call (.f n_heap_PutBytes) [.t 95, .t 96, .t 99, .t 100], none, 63⟩,
 ⟨(some 94), .mv (.t 101), none, 127⟩,
 ⟨(some 102), .extract (.t 94) 0, none, 255⟩,
 ⟨(some 103), .extract (.t 94) 1, none, 255⟩,
 ⟨(some 16), .mv (.t 102), none, 511⟩,
 ⟨(some 17), .mv (.t 103), none, 2047⟩] false)
 (.seq (.reg [⟨(some 104), .mv (.t 17), none, 0⟩,
 ⟨(some 105), .bin .eql (.t 104) (.c (.pv (.int .i64 (0)))), none, 1⟩] false)
 (.cond (.t 105)
 (.seq (.reg [⟨(some 107), .load true 7 (.t 10), none, 0⟩,
 ⟨(some 108), .mv (.t 2), none, 0⟩,
 ⟨(some 109), .bin .rem (.t 108) (.c (.pv (.int .u8 (5)))), none, 2⟩,
 ⟨(some 110), .conv .i64 (.t 109), none, 6⟩,
 ⟨(some 111), .mv (.t 3), none, 0⟩,
 ⟨(some 112), .strlen (.t 111), none, 16⟩,
 ⟨(some 113), .call (.f n_heap_Interval) [.t 107, .t 110, .t 112], none, 63⟩,
 ⟨(some 106), .mv (.t 113), none, 127⟩,
 ⟨(some 114), .extract (.t 106) 0, none, 255⟩,
 ⟨(some 115), .extract (.t 106) 1, none, 255⟩,
 ⟨(some 18), .alloc [.pv (.int .i64 (0)), .pv (.bool false), .pv (.int .i64 (0)), .pv (.str []), .pv (.int .i64 (0)), .pv (.int .i64 (0)), .pv (.int .i64 (0))], none, 0⟩,
 ⟨none, .store 7 (.t 18) (.t 114), none, 1535⟩,
 ⟨(some 19), .mv (.t 115), none, 4095⟩] false)
 (.seq (.reg [⟨(some 117), .mv (.t 16), none, 0⟩,
 ⟨(some 118), .load true 7 (.t 18), none, 0⟩,
 ⟨(some 119), .call (.f n_heap_Bytes) [.t 117, .t 118], none, 3⟩,
 ⟨(some 116), .mv (.t 119), none, 7⟩,
 ⟨(some 120), .extract (.t 116) 0, none, 15⟩,
 ⟨(some 121), .extract (.t 116) 1, none, 15⟩,
 ⟨(some 20), .mv (.t 120), none, 31⟩,
 ⟨(some 21), .mv (.t 121), none, 127⟩] false)
 (.seq (.reg [⟨(some 122), .mv (.t 16), none, 0⟩,
 ⟨(some 123), .call (.f n_heap_Check) [.t 122], none, 1⟩,
 ⟨(some 124), .bin .neq (.t 123) (.c (.pv (.int .i64 (0)))), none, 3⟩,
 ⟨(some 125), .mv (.t 124), none, 7⟩,
 ⟨(some 126), .mv (.t 16), (some (125, false)), 15⟩,
 ⟨(some 127), .slen (.t 126), (some (125, false)), 31⟩,
 ⟨(some 128), .mv (.t 9), (some (125, false)), 15⟩,
 ⟨(some 129), .slen (.t 128), (some (125, false)), 79⟩,
 ⟨(some 130), .bin .neq (.t 127) (.t 129), (some (125, false)), 255⟩,
 ⟨(some 131), .pick (.t 125) (.c (.pv (.bool true))) (.t 130), none, 511⟩,
 ⟨(some 132), .mv (.t 131), none, 1023⟩,
 ⟨(some 133), .mv (.t 19), (some (132, false)), 2047⟩,
 ⟨(some 134), .bin .neq (.t 133) (.c (.pv (.int .i64 (0)))), (some (132, false)), 4095⟩,
 ⟨(some 135), .pick (.t 132) (.c (.pv (.bool true))) (.t 134), none, 8191⟩,
 ⟨(some 136), .mv (.t 135), none, 16383⟩,
 ⟨(some 137), .mv (.t 21), (some (136, false)), 32767⟩,
 ⟨(some 138), .bin .neq (.t 137) (.c (.pv (.int .i64 (0)))), (some (136, false)), 65535⟩,
 ⟨(some 139), .pick (.t 136) (.c (.pv (.bool true))) (.t 138), none, 131071⟩,
 ⟨(some 140), .mv (.t 139), none, 262143⟩,
 ⟨(some 141), .mv (.t 20), (some (140, false)), 524287⟩,
 ⟨(some 142), .mv (.t 3), (some (140, false)), 524287⟩,
 ⟨(some 143), .bin .neq (.t 141) (.t 142), (some (140, false)), 2097151⟩,
 ⟨(some 144), .pick (.t 140) (.c (.pv (.bool true))) (.t 143), none, 4194303⟩] false)
 (.cond (.t 144)
 (.seq (.reg [⟨(some 8), .mv (.c (.pv (.bool false))), none, 0⟩] false)
 (.ret))
 (.skip)))))
 (.skip))))
 (.seq (.seq (.reg [⟨(some 146), .mv (.t 9), none, 0⟩,
 ⟨(some 147), .load true 7 (.t 10), none, 0⟩,
 ⟨(some 148), .mv (.t 2), none, 0⟩,
 ⟨(some 149), .bin .rem (.t 148) (.c (.pv (.int .u8 (5)))), none, 4⟩,
 ⟨(some 150), .conv .i64 (.t 149), none, 12⟩,
 ⟨(some 151), .load true 7 (.t 11), none, 0⟩,
 ⟨(some 152), .load true 7 (.t 12), none, 0⟩,
 ⟨(some 153), .bsl 7 2 [.pv (.int .i64 (0)), .pv (.bool false), .pv (.int .i64 (0)), .pv (.str []), .pv (.int .i64 (0)), .pv (.int .i64 (0)), .pv (.int .i64 (0))] [(0, .t 151), (1, .t 152)], none, 96⟩,
 ⟨(some 154), .call (.f n_heap_PutItems) [.t 146, .t 147, .t 150, .t 153], none, 255⟩,
 ⟨(some 145), .mv (.t 154), none, 511⟩,
 ⟨(some 155), .extract (.t 145) 0, none, 1023⟩,
 ⟨(some 156), .extract (.t 145) 1, none, 1023⟩,
 ⟨(some 22), .mv (.t 155), none, 2047⟩,
 ⟨(some 23), .mv (.t 156), none, 8191⟩] false)
 (.seq (.reg [⟨(some 157), .mv (.t 23), none, 0⟩,
 ⟨(some 158), .bin .eql (.t 157) (.c (.pv (.int .i64 (0)))), none, 1⟩] false)
 (.cond (.t 158)
 (.seq (.reg [⟨(some 160), .load true 7 (.t 10), none, 0⟩,
 ⟨(some 161), .mv (.t 2), none, 0⟩,
 ⟨(some 162), .bin .rem (.t 161) (.c (.pv (.int .u8 (5)))), none, 2⟩,
 ⟨(some 163), .conv .i64 (.t 162), none, 6⟩,
 ⟨(some 164), .call (.f n_heap_Interval) [.t 160, .t 163, .c (.pv (.int .i64 (2)))], none, 15⟩,
 ⟨(some 159), .mv (.t 164), none, 31⟩,
 ⟨(some 165), .extract (.t 159) 0, none, 63⟩,
 ⟨(some 166), .extract (.t 159) 1, none, 63⟩,
 ⟨(some 24), .alloc [.pv (.int .i64 (0)), .pv (.bool false), .pv (.int .i64 (0)), .pv (.str []), .pv (.int .i64 (0)), .pv (.int .i64 (0)), .pv (.int .i64 (0))], none, 0⟩,
 ⟨none, .store 7 (.t 24) (.t 165), none, 383⟩,
 ⟨(some 25), .mv (.t 166), none, 1023⟩] false)
 (.seq (.reg [⟨(some 168), .mv (.t 22), none, 0⟩,
 ⟨(some 169), .load true 7 (.t 24), none, 0⟩,
 ⟨(some 170), .call (.f n_heap_Items) [.t 168, .t 169], none, 3⟩,
 ⟨(some 167), .mv (.t 170), none, 7⟩,
 ⟨(some 171), .extract (.t 167) 0, none, 15⟩,
 ⟨(some 172), .extract (.t 167) 1, none, 15⟩,
 ⟨(some 26), .mv (.t 171), none, 31⟩,
 ⟨(some 27), .mv (.t 172), none, 127⟩] false)
 (.seq (.reg [⟨(some 173), .mv (.t 22), none, 0⟩,
 ⟨(some 174), .call (.f n_heap_Check) [.t 173], none, 1⟩,
 ⟨(some 175), .bin .neq (.t 174) (.c (.pv (.int .i64 (0)))), none, 3⟩,
 ⟨(some 176), .mv (.t 175), none, 7⟩,
 ⟨(some 177), .mv (.t 25), (some (176, false)), 15⟩,
 ⟨(some 178), .bin .neq (.t 177) (.c (.pv (.int .i64 (0)))), (some (176, false)), 31⟩,
 ⟨(some 179), .pick (.t 176) (.c (.pv (.bool true))) (.t 178), none, 63⟩,
 ⟨(some 180), .mv (.t 179), none, 127⟩,
 ⟨(some 181), .mv (.t 27), (some (180, false)), 255⟩,
 ⟨(some 182), .bin .neq (.t 181) (.c (.pv (.int .i64 (0)))), (some (180, false)), 511⟩,
 ⟨(some 183), .pick (.t 180) (.c (.pv (.bool true))) (.t 182), none, 1023⟩,
 ⟨(some 184), .mv (.t 183), none, 2047⟩,
 ⟨(some 185), .mv (.t 26), (some (184, false)), 4095⟩,
 ⟨(some 186), .slen (.t 185), (some (184, false)), 8191⟩,
 ⟨(some 187), .bin .neq (.t 186) (.c (.pv (.int .i64 (2)))), (some (184, false)), 16383⟩,
 ⟨(some 188), .pick (.t 184) (.c (.pv (.bool true))) (.t 187), none, 32767⟩,
 ⟨(some 189), .mv (.t 188), none, 65535⟩,
 ⟨(some 190), .mv (.t 26), (some (189, false)), 131071⟩,
 ⟨(some 191), .iaddr 7 (.t 190) (.c (.pv (.int .i64 (0)))), (some (189, false)), 262143⟩,
 ⟨(some 192), .load true 7 (.t 191), (some (189, false)), 524287⟩,
 ⟨(some 193), .load true 7 (.t 11), (some (189, false)), 131071⟩,
 ⟨(some 194), .eqs true [0, 1, 0, 2, 0, 0, 0] (.t 192) (.t 193), (some (189, false)), 2097151⟩,
 ⟨(some 195), .pick (.t 189) (.c (.pv (.bool true))) (.t 194), none, 4194303⟩,
 ⟨(some 196), .mv (.t 195), none, 8388607⟩,
 ⟨(some 197), .mv (.t 26), (some (196, false)), 16777215⟩,
 ⟨(some 198), .iaddr 7 (.t 197) (.c (.pv (.int .i64 (1)))), (some (196, false)), 33554431⟩,
 ⟨(some 199), .load true 7 (.t 198), (some (196, false)), 67108863⟩,
 ⟨(some 200), .load true 7 (.t 12), (some (196, false)), 16777215⟩,
 ⟨(some 201), .eqs true [0, 1, 0, 2, 0, 0, 0] (.t 199) (.t 200), (some (196, false)), 268435455⟩,
 ⟨(some 202), .pick (.t 196) (.c (.pv (.bool true))) (.t 201), none, 536870911⟩] true)
 (.cond (.t 202)
 (.seq (.reg [⟨(some 8), .mv (.c (.pv (.bool false))), none, 0⟩] false)
 (.ret))
 (.skip)))))
 (.skip))))
 (.seq (.seq (.reg [⟨(some 203), .mv (.t 9), none, 0⟩,
 ⟨(some 204), .slen (.t 203), none, 1⟩,
 ⟨(some 205), .mv (.c (.pv (.int .i64 (0)))), none, 0⟩] false)
 (.block 0
 (.loop [9, 10, 203, 204, 205]
 (.seq (.reg [⟨(some 206), .bin .lss (.t 205) (.t 204), none, 0⟩] false)
 (.seq (.cond (.t 206)
 (.skip)
 (.exit 0))
 (.seq (.block 1
 (.seq (.reg [⟨(some 207), .mv (.t 205), none, 0⟩,
 ⟨(some 208), .iaddr 7 (.t 203) (.t 205), none, 0⟩,
 ⟨(some 209), .load true 7 (.t 208), none, 2⟩,
 ⟨(some 29), .alloc [.pv (.int .i64 (0)), .pv (.str []), .emp 7, .emp 7, .emp 7, .pv (.int .i64 (0)), .pv (.int .i64 (0))], none, 0⟩,
 ⟨(some 28), .mv (.t 207), none, 15⟩,
 ⟨none, .store 7 (.t 29) (.t 209), none, 31⟩] false)
 (.seq (.reg [⟨(some 211), .mv (.t 9), none, 0⟩,
 ⟨(some 212), .load true 7 (.t 10), none, 0⟩,
 ⟨(some 213), .call (.f n_heap_PutItems) [.t 211, .t 212, .c (.pv (.int .i64 (0))), .c (.emp 7)], none, 3⟩,
 ⟨(some 210), .mv (.t 213), none, 7⟩,
 ⟨(some 214), .extract (.t 210) 0, none, 15⟩,
 ⟨(some 215), .extract (.t 210) 1, none, 15⟩,
 ⟨(some 30), .mv (.t 214), none, 31⟩,
 ⟨(some 31), .mv (.t 215), none, 127⟩] false)
 (.seq (.reg [⟨(some 216), .mv (.t 31), none, 0⟩,
 ⟨(some 217), .bin .eql (.t 216) (.c (.pv (.int .i64 (0)))), none, 1⟩,
 ⟨(some 218), .mv (.t 217), none, 3⟩,
 ⟨(some 219), .mv (.t 30), (some (218, true)), 7⟩,
 ⟨(some 220), .slen (.t 219), (some (218, true)), 15⟩,
 ⟨(some 221), .mv (.t 9), (some (218, true)), 7⟩,
 ⟨(some 222), .slen (.t 221), (some (218, true)), 39⟩,
 ⟨(some 223), .bin .neq (.t 220) (.t 222), (some (218, true)), 127⟩,
 ⟨(some 224), .mv (.t 223), (some (218, true)), 255⟩,
 ⟨(some 225), .mv (.t 30), (some (224, false)), 511⟩,
 ⟨(some 226), .mv (.t 28), (some (224, false)), 511⟩,
 ⟨(some 227), .iaddr 7 (.t 225) (.t 226), (some (224, false)), 2047⟩,
 ⟨(some 228), .load true 7 (.t 227), (some (224, false)), 4095⟩,
 ⟨(some 229), .load true 7 (.t 29), (some (224, false)), 511⟩,
 ⟨(some 230), .call (.f n_ref11_SameCell) [.t 228, .t 229], (some (224, false)), 16383⟩,
 ⟨(some 231), .not (.t 230), (some (224, false)), 32767⟩,
 ⟨(some 232), .pick (.t 224) (.c (.pv (.bool true))) (.t 231), (some (218, true)), 65535⟩,
 ⟨(some 233), .pick (.t 218) (.t 232) (.c (.pv (.bool false))), none, 131071⟩] true)
 (.cond (.t 233)
 (.seq (.reg [⟨(some 8), .mv (.c (.pv (.bool false))), none, 0⟩] false)
 (.ret))
 (.skip))))))
 (.reg [⟨(some 234), .bin .add (.t 205) (.c (.pv (.int .i64 (1)))), none, 0⟩,
 ⟨(some 205), .mv (.t 234), none, 1⟩] false)))))))
 (.seq (.reg [⟨(some 8), .mv (.c (.pv (.bool true))), none, 0⟩] false)
 (.ret)))))))))))⟩
def c_ref11_Word_Obj : RFn := ⟨2, 84, [.cell 4 true 7],
 .seq (.reg [⟨(some 2), .box 5 (.t 0), none, 0⟩,
 ⟨(some 4), .alloc [.pv (.int .i64 (0)), .pv (.bool false), .pv (.int .i64 (0)), .pv (.str []), .pv (.int .i64 (0)), .pv (.int .i64 (0)), .pv (.int .i64 (0))], none, 0⟩] false)
 (.seq (.reg [⟨(some 6), .faddr (.t 2) 3, none, 0⟩,
 ⟨(some 7), .load false 1 (.t 6), none, 1⟩,
 ⟨(some 8), .conv .i64 (.t 7), none, 3⟩,
 ⟨(some 5), .mv (.t 8), none, 7⟩] false)
 (.seq (.seq (.reg [⟨(some 9), .faddr (.t 2) 0, none, 0⟩,
 ⟨(some 10), .load false 1 (.t 9), none, 1⟩,
 ⟨(some 11), .bin .rem (.t 10) (.c (.pv (.int .u8 (16)))), none, 3⟩] false)
 (.block 0
 (.seq (.reg [⟨(some 13), .bin .eql (.t 11) (.c (.pv (.int .u8 (0)))), none, 0⟩,
 ⟨(some 12), .mv (.t 13), none, 1⟩] false)
 (.cond (.t 12)
 (.seq (.reg [⟨(some 14), .build [.pv (.int .i64 (0)), .pv (.bool false), .pv (.int .i64 (0)), .pv (.str []), .pv (.int .i64 (0)), .pv (.int .i64 (0)), .pv (.int .i64 (0))] [(0, 1, .c (.pv (.int .i64 (0))))], none, 0⟩,
 ⟨none, .store 7 (.t 4) (.t 14), none, 1⟩] false)
 (.ret))
 (.seq (.reg [⟨(some 16), .bin .eql (.t 11) (.c (.pv (.int .u8 (1)))), none, 0⟩,
 ⟨(some 15), .mv (.t 16), none, 1⟩] false)
 (.cond (.t 15)
 (.seq (.reg [⟨(some 17), .build [.pv (.int .i64 (0)), .pv (.bool false), .pv (.int .i64 (0)), .pv (.str []), .pv (.int .i64 (0)), .pv (.int .i64 (0)), .pv (.int .i64 (0))] [(0, 1, .c (.pv (.int .i64 (1))))], none, 0⟩,
 ⟨none, .store 7 (.t 4) (.t 17), none, 1⟩] false)
 (.ret))
 (.seq (.reg [⟨(some 19), .bin .eql (.t 11) (.c (.pv (.int .u8 (2)))), none, 0⟩,
 ⟨(some 18), .mv (.t 19), none, 1⟩] false)
 (.cond (.t 18)
 (.seq (.reg [⟨(some 20), .faddr (.t 2) 1, none, 0⟩,
 ⟨(some 21), .load false 1 (.t 20), none, 1⟩,
 ⟨(some 22), .bin .rem (.t 21) (.c (.pv (.int .u8 (2)))), none, 3⟩,
 ⟨(some 23), .conv .i64 (.t 22), none, 7⟩,
 ⟨(some 24), .build [.pv (.int .i64 (0)), .pv (.bool false), .pv (.int .i64 (0)), .pv (.str []), .pv (.int .i64 (0)), .pv (.int .i64 (0)), .pv (.int .i64 (0))] [(0, 1, .c (.pv (.int .i64 (2)))), (2, 1, .t 23)], none, 15⟩,
 ⟨none, .store 7 (.t 4) (.t 24), none, 31⟩] false)
 (.ret))
 (.seq (.seq (.reg [⟨(some 26), .bin .eql (.t 11) (.c (.pv (.int .u8 (3)))), none, 0⟩,
 ⟨(some 25), .mv (.t 26), none, 1⟩] false)
 (.cond (.t 25)
 (.skip)
 (.reg [⟨(some 27), .bin .eql (.t 11) (.c (.pv (.int .u8 (4)))), none, 0⟩,
 ⟨(some 25), .mv (.t 27), none, 1⟩] false)))
 (.cond (.t 25)
 (.seq (.reg [⟨(some 28), .mv (.t 5), none, 0⟩,
 ⟨(some 29), .bin .rem (.t 28) (.c (.pv (.int .i64 (10)))), none, 1⟩,
 ⟨(some 30), .build [.pv (.int .i64 (0)), .pv (.bool false), .pv (.int .i64 (0)), .pv (.str []), .pv (.int .i64 (0)), .pv (.int .i64 (0)), .pv (.int .i64 (0))] [(0, 1, .c (.pv (.int .i64 (3)))), (2, 1, .t 29)], none, 3⟩,
 ⟨none, .store 7 (.t 4) (.t 30), none, 7⟩] false)
 (.ret))
 (.seq (.reg [⟨(some 32), .bin .eql (.t 11) (.c (.pv (.int .u8 (5)))), none, 0⟩,
 ⟨(some 31), .mv (.t 32), none, 1⟩] false)
 (.cond (.t 31)
 (.seq (.reg [⟨(some 33), .mv (.t 5), none, 0⟩,
 ⟨(some 34), .build [.pv (.int .i64 (0)), .pv (.bool false), .pv (.int .i64 (0)), .pv (.str []), .pv (.int .i64 (0)), .pv (.int .i64 (0)), .pv (.int .i64 (0))] [(0, 1, .c (.pv (.int .i64 (3)))), (2, 1, .t 33)], none, 1⟩,
 ⟨none, .store 7 (.t 4) (.t 34), none, 3⟩] false)
 (.ret))
 (.seq (.reg [⟨(some 36), .bin .eql (.t 11) (.c (.pv (.int .u8 (6)))), none, 0⟩,
 ⟨(some 35), .mv (.t 36), none, 1⟩] false)
 (.cond (.t 35)
 (.seq (.reg [⟨(some 37), .mv (.t 5), none, 0⟩,
 ⟨(some 38), .bin .rem (.t 37) (.c (.pv (.int .i64 (1048576)))), none, 1⟩,
 ⟨(some 39), .build [.pv (.int .i64 (0)), .pv (.bool false), .pv (.int .i64 (0)), .pv (.str []), .pv (.int .i64 (0)), .pv (.int .i64 (0)), .pv (.int .i64 (0))] [(0, 1, .c (.pv (.int .i64 (4)))), (2, 1, .t 38)], none, 3⟩,
 ⟨none, .store 7 (.t 4) (.t 39), none, 7⟩] false)
 (.ret))
 (.seq (.reg [⟨(some 41), .bin .eql (.t 11) (.c (.pv (.int .u8 (7)))), none, 0⟩,
 ⟨(some 40), .mv (.t 41), none, 1⟩] false)
 (.cond (.t 40)
 (.seq (.reg [⟨(some 42), .mv (.t 5), none, 0⟩,
 ⟨(some 43), .build [.pv (.int .i64 (0)), .pv (.bool false), .pv (.int .i64 (0)), .pv (.str []), .pv (.int .i64 (0)), .pv (.int .i64 (0)), .pv (.int .i64 (0))] [(0, 1, .c (.pv (.int .i64 (4)))), (2, 1, .t 42)], none, 1⟩,
 ⟨none, .store 7 (.t 4) (.t 43), none, 3⟩] false)
 (.ret))
 (.seq (.seq (.reg [⟨(some 45), .bin .eql (.t 11) (.c (.pv (.int .u8 (8)))), none, 0⟩,
 ⟨(some 44), .mv (.t 45), none, 1⟩] false)
 (.cond (.t 44)
 (.skip)
 (.reg [⟨(some 46), .bin .eql (.t 11) (.c (.pv (.int .u8 (9)))), none, 0⟩,
 ⟨(some 44), .mv (.t 46), none, 1⟩] false)))
 (.cond (.t 44)
 (.seq (.reg [⟨(some 47), .faddr (.t 2) 0, none, 0⟩,
 ⟨(some 48), .load false 1 (.t 47), none, 1⟩,
 ⟨(some 49), .bin .rem (.t 48) (.c (.pv (.int .u8 (16)))), none, 3⟩,
 ⟨(some 50), .bin .eql (.t 49) (.c (.pv (.int .u8 (9)))), none, 7⟩,
 ⟨(some 51), .faddr (.t 2) 1, none, 0⟩,
 ⟨(some 52), .load false 1 (.t 51), none, 16⟩,
 ⟨(some 53), .conv .i64 (.t 52), none, 48⟩,
 ⟨(some 54), .bin .rem (.t 53) (.c (.pv (.int .i64 (8)))), none, 112⟩,
 ⟨(some 55), .paddr 8 1 (.g 0) (.t 54), none, 240⟩,
 ⟨(some 56), .load false 1 (.t 55), none, 496⟩,
 ⟨(some 57), .build [.pv (.int .i64 (0)), .pv (.bool false), .pv (.int .i64 (0)), .pv (.str []), .pv (.int .i64 (0)), .pv (.int .i64 (0)), .pv (.int .i64 (0))] [(0, 1, .c (.pv (.int .i64 (5)))), (1, 1, .t 50), (3, 1, .t 56)], none, 1023⟩,
 ⟨none, .store 7 (.t 4) (.t 57), none, 2047⟩] true)
 (.ret))
 (.seq (.reg [⟨(some 59), .bin .eql (.t 11) (.c (.pv (.int .u8 (10)))), none, 0⟩,
 ⟨(some 58), .mv (.t 59), none, 1⟩] false)
 (.cond (.t 58)
 (.seq (.reg [⟨(some 60), .mv (.t 1), none, 0⟩,
 ⟨(some 61), .load true 5 (.t 2), none, 0⟩,
 ⟨(some 62), .call (.f n_ref11_part) [.t 60, .c (.pv (.int .i64 (6))), .c (.pv (.int .i64 (1))), .t 61], none, 3⟩,
 ⟨none, .store 7 (.t 4) (.t 62), none, 7⟩] false)
 (.ret))
 (.seq (.reg [⟨(some 64), .bin .eql (.t 11) (.c (.pv (.int .u8 (11)))), none, 0⟩,
 ⟨(some 63), .mv (.t 64), none, 1⟩] false)
 (.cond (.t 63)
 (.seq (.reg [⟨(some 65), .mv (.t 1), none, 0⟩,
 ⟨(some 66), .load true 5 (.t 2), none, 0⟩,
 ⟨(some 67), .call (.f n_ref11_part) [.t 65, .c (.pv (.int .i64 (7))), .c (.pv (.int .i64 (2))), .t 66], none, 3⟩,
 ⟨none, .store 7 (.t 4) (.t 67), none, 7⟩] false)
 (.ret))
 (.seq (.reg [⟨(some 69), .bin .eql (.t 11) (.c (.pv (.int .u8 (12)))), none, 0⟩,
 ⟨(some 68), .mv (.t 69), none, 1⟩] false)
 (.cond (.t 68)
 (.seq (.reg [⟨(some 70), .mv (.t 1), none, 0⟩,
 ⟨(some 71), .load true 5 (.t 2), none, 0⟩,
 ⟨(some 72), .call (.f n_ref11_part) [.t 70, .c (.pv (.int .i64 (8))), .c (.pv (.int .i64 (2))), .t 71], none, 3⟩,
 ⟨none, .store 7 (.t 4) (.t 72), none, 7⟩] false)
 (.ret))
 (.seq (.reg [⟨(some 74), .bin .eql (.t 11) (.c (.pv (.int .u8 (13)))), none, 0⟩,
 ⟨(some 73), .mv (.t 74), none, 1⟩] false)
 (.cond (.t 73)
 (.seq (.reg [⟨(some 75), .mv (.t 1), none, 0⟩,
 ⟨(some 76), .load true 5 (.t 2), none, 0⟩,
 ⟨(some 77), .call (.f n_ref11_part) [.t 75, .c (.pv (.int .i64 (9))), .c (.pv (.int .i64 (3))), .t 76], none, 3⟩,
 ⟨none, .store 7 (.t 4) (.t 77), none, 7⟩] false)
 (.ret))
 (.seq (.reg [⟨(some 79), .bin .eql (.t 11) (.c (.pv (.int .u8 (14)))), none, 0⟩,
 ⟨(some 78), .mv (.t 79), none, 1⟩] false)
 (.cond (.t 78)
 (.seq (.reg [⟨(some 80), .build [.pv (.int .i64 (0)), .pv (.bool false), .pv (.int .i64 (0)), .pv (.str []), .pv (.int .i64 (0)), .pv (.int .i64 (0)), .pv (.int .i64 (0))] [(0, 1, .c (.pv (.int .i64 (10)))), (1, 1, .c (.pv (.bool true))), (3, 1, .c (.pv (.str [97, 100, 100])))], none, 0⟩,
 ⟨none, .store 7 (.t 4) (.t 80), none, 1⟩] false)
 (.ret))
 (.skip)))))))))))))))))))))))))))))
 (.seq (.reg [⟨(some 81), .mv (.t 1), none, 0⟩,
 ⟨(some 82), .load true 5 (.t 2), none, 0⟩,
 ⟨(some 83), .call (.f n_ref11_part) [.t 81, .c (.pv (.int .i64 (11))), .c (.pv (.int .i64 (4))), .t 82], none, 3⟩,
 ⟨none, .store 7 (.t 4) (.t 83), none, 7⟩] false)
 (.ret))))⟩
def c_law11_wakes : RFn := ⟨0, 185, [.tmp 0],
 .seq (.reg [⟨(some 0), .mv (.c (.pv (.bool false))), none, 0⟩] false)
 (.seq (.reg [⟨(some 22), .call (.f n_law11_sample) [], none, 0⟩,
 ⟨(some 1), .mv (.t 22), none, 1⟩] false)
 (.seq (.reg [⟨(some 23), .build [.pv (.int .i64 (0)), .pv (.bool false), .pv (.int .i64 (0)), .pv (.str []), .pv (.int .i64 (0)), .pv (.int .i64 (0)), .pv (.int .i64 (0))] [(0, 1, .c (.pv (.int .i64 (9)))), (4, 1, .c (.pv (.int .i64 (2))))], none, 0⟩,
 ⟨(some 2), .alloc [.pv (.int .i64 (0)), .pv (.bool false), .pv (.int .i64 (0)), .pv (.str []), .pv (.int .i64 (0)), .pv (.int .i64 (0)), .pv (.int .i64 (0))], none, 0⟩,
 ⟨none, .store 7 (.t 2) (.t 23), none, 3⟩] false)
 (.seq (.reg [⟨(some 25), .mv (.t 1), none, 0⟩,
 ⟨(some 26), .call (.f n_law11_str) [.c (.pv (.int .i64 (0))), .c (.pv (.int .i64 (1))), .c (.pv (.int .i64 (2)))], none, 0⟩,
 ⟨(some 27), .call (.f n_heap_Bytes) [.t 25, .t 26], none, 3⟩,
 ⟨(some 24), .mv (.t 27), none, 7⟩,
 ⟨(some 28), .extract (.t 24) 0, none, 15⟩,
 ⟨(some 29), .extract (.t 24) 1, none, 15⟩,
 ⟨(some 3), .mv (.t 28), none, 31⟩,
 ⟨(some 4), .mv (.t 29), none, 127⟩] false)
 (.seq (.reg [⟨(some 31), .mv (.t 1), none, 0⟩,
 ⟨(some 32), .build [.pv (.int .i64 (0)), .pv (.bool false), .pv (.int .i64 (0)), .pv (.str []), .pv (.int .i64 (0)), .pv (.int .i64 (0)), .pv (.int .i64 (0))] [(0, 1, .c (.pv (.int .i64 (7)))), (4, 1, .c (.pv (.int .i64 (1)))), (5, 1, .c (.pv (.int .i64 (1)))), (6, 1, .c (.pv (.int .i64 (1))))], none, 0⟩,
 ⟨(some 33), .call (.f n_heap_Items) [.t 31, .t 32], none, 3⟩,
 ⟨(some 30), .mv (.t 33), none, 7⟩,
 ⟨(some 34), .extract (.t 30) 0, none, 15⟩,
 ⟨(some 35), .extract (.t 30) 1, none, 15⟩,
 ⟨(some 5), .mv (.t 34), none, 31⟩,
 ⟨(some 6), .mv (.t 35), none, 127⟩] false)
 (.seq (.reg [⟨(some 37), .mv (.t 1), none, 0⟩,
 ⟨(some 38), .call (.f n_law11_str) [.c (.pv (.int .i64 (0))), .c (.pv (.int .i64 (1))), .c (.pv (.int .i64 (4)))], none, 0⟩,
 ⟨(some 39), .call (.f n_heap_PutBytes) [.t 37, .t 38, .c (.pv (.int .i64 (3))), .c (.pv (.str [88]))], none, 3⟩,
 ⟨(some 36), .mv (.t 39), none, 7⟩,
 ⟨(some 40), .extract (.t 36) 0, none, 15⟩,
 ⟨(some 41), .extract (.t 36) 1, none, 15⟩,
 ⟨(some 7), .mv (.t 40), none, 31⟩,
 ⟨(some 8), .mv (.t 41), none, 127⟩] false)
 (.seq (.reg [⟨(some 43), .mv (.t 1), none, 0⟩,
 ⟨(some 44), .call (.f n_law11_str) [.c (.pv (.int .i64 (0))), .c (.pv (.int .i64 (0))), .c (.pv (.int .i64 (1)))], none, 0⟩,
 ⟨(some 45), .call (.f n_heap_Key) [.t 43, .t 44], none, 3⟩,
 ⟨(some 42), .mv (.t 45), none, 7⟩,
 ⟨(some 46), .extract (.t 42) 0, none, 15⟩,
 ⟨(some 47), .extract (.t 42) 1, none, 15⟩,
 ⟨(some 9), .alloc [.pv (.int .i64 (0)), .pv (.bool false), .pv (.int .i64 (0)), .pv (.str []), .pv (.int .i64 (0)), .pv (.int .i64 (0)), .pv (.int .i64 (0))], none, 0⟩,
 ⟨none, .store 7 (.t 9) (.t 46), none, 95⟩,
 ⟨(some 10), .mv (.t 47), none, 255⟩] false)
 (.seq (.reg [⟨(some 49), .mv (.t 1), none, 0⟩,
 ⟨(some 50), .load true 7 (.t 2), none, 0⟩,
 ⟨(some 51), .load true 7 (.t 9), none, 0⟩,
 ⟨(some 52), .call (.f n_heap_Find) [.t 49, .t 50, .t 51], none, 7⟩,
 ⟨(some 48), .mv (.t 52), none, 15⟩,
 ⟨(some 53), .extract (.t 48) 0, none, 31⟩,
 ⟨(some 54), .extract (.t 48) 1, none, 31⟩,
 ⟨(some 55), .extract (.t 48) 2, none, 31⟩,
 ⟨(some 11), .alloc [.pv (.int .i64 (0)), .pv (.bool false), .pv (.int .i64 (0)), .pv (.str []), .pv (.int .i64 (0)), .pv (.int .i64 (0)), .pv (.int .i64 (0))], none, 0⟩,
 ⟨none, .store 7 (.t 11) (.t 53), none, 319⟩,
 ⟨(some 12), .mv (.t 54), none, 895⟩,
 ⟨(some 13), .mv (.t 55), none, 2047⟩] false)
 (.seq (.reg [⟨(some 57), .mv (.t 1), none, 0⟩,
 ⟨(some 58), .load true 7 (.t 2), none, 0⟩,
 ⟨(some 59), .call (.f n_law11_name) [.c (.pv (.str [98]))], none, 0⟩,
 ⟨(some 60), .call (.f n_law11_name) [.c (.pv (.str [99]))], none, 4⟩,
 ⟨(some 61), .call (.f n_heap_Store) [.t 57, .t 58, .t 59, .t 60], none, 15⟩,
 ⟨(some 56), .mv (.t 61), none, 31⟩,
 ⟨(some 62), .extract (.t 56) 0, none, 63⟩,
 ⟨(some 63), .extract (.t 56) 1, none, 63⟩,
 ⟨(some 14), .mv (.t 62), none, 127⟩,
 ⟨(some 15), .mv (.t 63), none, 511⟩] true)
 (.seq (.reg [⟨(some 65), .mv (.t 14), none, 0⟩,
 ⟨(some 66), .load true 7 (.t 2), none, 0⟩,
 ⟨(some 67), .call (.f n_law11_name) [.c (.pv (.str [99]))], none, 0⟩,
 ⟨(some 68), .call (.f n_law11_name) [.c (.pv (.str [99]))], none, 4⟩,
 ⟨(some 69), .call (.f n_heap_Store) [.t 65, .t 66, .t 67, .t 68], none, 15⟩,
 ⟨(some 64), .mv (.t 69), none, 31⟩,
 ⟨(some 70), .extract (.t 64) 0, none, 63⟩,
 ⟨(some 71), .extract (.t 64) 1, none, 63⟩,
 ⟨(some 16), .mv (.t 70), none, 127⟩,
 ⟨(some 17), .mv (.t 71), none, 511⟩] true)
 (.seq (.reg [⟨(some 73), .mv (.t 1), none, 0⟩,
 ⟨(some 74), .build [.pv (.int .i64 (0)), .pv (.str []), .emp 7, .emp 7, .emp 7, .pv (.int .i64 (0)), .pv (.int .i64 (0))] [(0, 1, .c (.pv (.int .i64 (3)))), (5, 1, .c (.pv (.int .i64 (10000))))], none, 0⟩,
 ⟨(some 75), .call (.f n_heap_New) [.t 73, .t 74], none, 3⟩,
 ⟨(some 72), .mv (.t 75), none, 7⟩,
 ⟨(some 76), .extract (.t 72) 0, none, 15⟩,
 ⟨(some 77), .extract (.t 72) 1, none, 15⟩,
 ⟨(some 78), .extract (.t 72) 2, none, 15⟩,
 ⟨(some 18), .mv (.t 76), none, 31⟩,
 ⟨(some 19), .mv (.t 77), none, 191⟩,
 ⟨(some 20), .mv (.t 78), none, 511⟩] false)
 (.seq (.reg [⟨(some 79), .mv (.t 4), none, 0⟩,
 ⟨(some 80), .bin .eql (.t 79) (.c (.pv (.int .i64 (0)))), none, 1⟩,
 ⟨(some 81), .mv (.t 80), none, 3⟩,
 ⟨(some 82), .mv (.t 6), (some (81, true)), 7⟩,
 ⟨(some 83), .bin .eql (.t 82) (.c (.pv (.int .i64 (0)))), (some (81, true)), 15⟩,
 ⟨(some 84), .pick (.t 81) (.t 83) (.c (.pv (.bool false))), none, 31⟩,
 ⟨(some 85), .mv (.t 84), none, 63⟩,
 ⟨(some 86), .mv (.t 8), (some (85, true)), 127⟩,
 ⟨(some 87), .bin .eql (.t 86) (.c (.pv (.int .i64 (0)))), (some (85, true)), 255⟩,
 ⟨(some 88), .pick (.t 85) (.t 87) (.c (.pv (.bool false))), none, 511⟩,
 ⟨(some 89), .mv (.t 88), none, 1023⟩,
 ⟨(some 90), .mv (.t 10), (some (89, true)), 2047⟩,
 ⟨(some 91), .bin .eql (.t 90) (.c (.pv (.int .i64 (0)))), (some (89, true)), 4095⟩,
 ⟨(some 92), .pick (.t 89) (.t 91) (.c (.pv (.bool false))), none, 8191⟩,
 ⟨(some 93), .mv (.t 92), none, 16383⟩,
 ⟨(some 94), .mv (.t 13), (some (93, true)), 32767⟩,
 ⟨(some 95), .bin .eql (.t 94) (.c (.pv (.int .i64 (0)))), (some (93, true)), 65535⟩,
 ⟨(some 96), .pick (.t 93) (.t 95) (.c (.pv (.bool false))), none, 131071⟩,
 ⟨(some 97), .mv (.t 96), none, 262143⟩,
 ⟨(some 98), .mv (.t 15), (some (97, true)), 524287⟩,
 ⟨(some 99), .bin .eql (.t 98) (.c (.pv (.int .i64 (0)))), (some (97, true)), 1048575⟩,
 ⟨(some 100), .pick (.t 97) (.t 99) (.c (.pv (.bool false))), none, 2097151⟩,
 ⟨(some 101), .mv (.t 100), none, 4194303⟩,
 ⟨(some 102), .mv (.t 20), (some (101, true)), 8388607⟩,
 ⟨(some 103), .bin .eql (.t 102) (.c (.pv (.int .i64 (0)))), (some (101, true)), 16777215⟩,
 ⟨(some 104), .pick (.t 101) (.t 103) (.c (.pv (.bool false))), none, 33554431⟩,
 ⟨(some 21), .mv (.t 104), none, 67108863⟩] false)
 (.seq (.reg [⟨(some 105), .mv (.t 21), none, 0⟩,
 ⟨(some 106), .mv (.t 105), none, 1⟩,
 ⟨(some 107), .mv (.t 1), (some (106, true)), 3⟩,
 ⟨(some 108), .call (.f n_heap_Check) [.t 107], (some (106, true)), 7⟩,
 ⟨(some 109), .bin .eql (.t 108) (.c (.pv (.int .i64 (0)))), (some (106, true)), 15⟩,
 ⟨(some 110), .pick (.t 106) (.t 109) (.c (.pv (.bool false))), none, 31⟩,
 ⟨(some 111), .mv (.t 110), none, 63⟩,
 ⟨(some 112), .mv (.t 1), (some (111, true)), 127⟩,
 ⟨(some 113), .call (.f n_heap_Total) [.t 112], (some (111, true)), 255⟩,
 ⟨(some 114), .bin .eql (.t 113) (.c (.pv (.int .i64 (16)))), (some (111, true)), 511⟩,
 ⟨(some 115), .pick (.t 111) (.t 114) (.c (.pv (.bool false))), none, 1023⟩,
 ⟨(some 116), .mv (.t 115), none, 2047⟩,
 ⟨(some 117), .mv (.t 3), (some (116, true)), 4095⟩,
 ⟨(some 118), .bin .eql (.t 117) (.c (.pv (.str [98, 99]))), (some (116, true)), 8191⟩,
 ⟨(some 119), .pick (.t 116) (.t 118) (.c (.pv (.bool false))), none, 16383⟩,
 ⟨(some 120), .mv (.t 119), none, 32767⟩,
 ⟨(some 121), .mv (.t 5), (some (120, true)), 65535⟩,
 ⟨(some 122), .slen (.t 121), (some (120, true)), 131071⟩,
 ⟨(some 123), .bin .eql (.t 122) (.c (.pv (.int .i64 (1)))), (some (120, true)), 262143⟩,
 ⟨(some 124), .pick (.t 120) (.t 123) (.c (.pv (.bool false))), none, 524287⟩,
 ⟨(some 125), .mv (.t 124), none, 1048575⟩,
 ⟨(some 126), .mv (.t 5), (some (125, true)), 2097151⟩,
 ⟨(some 127), .iaddr 7 (.t 126) (.c (.pv (.int .i64 (0)))), (some (125, true)), 4194303⟩,
 ⟨(some 128), .load true 7 (.t 127), (some (125, true)), 8388607⟩,
 ⟨(some 129), .call (.f n_law11_str) [.c (.pv (.int .i64 (0))), .c (.pv (.int .i64 (2))), .c (.pv (.int .i64 (2)))], (some (125, true)), 2097151⟩,
 ⟨(some 130), .eqs false [0, 1, 0, 2, 0, 0, 0] (.t 128) (.t 129), (some (125, true)), 33554431⟩,
 ⟨(some 131), .pick (.t 125) (.t 130) (.c (.pv (.bool false))), none, 67108863⟩,
 ⟨(some 132), .mv (.t 131), none, 134217727⟩,
 ⟨(some 133), .mv (.t 7), (some (132, true)), 268435455⟩,
 ⟨(some 134), .slen (.t 133), (some (132, true)), 536870911⟩,
 ⟨(some 135), .bin .eql (.t 134) (.c (.pv (.int .i64 (3)))), (some (132, true)), 1073741823⟩,
 ⟨(some 136), .pick (.t 132) (.t 135) (.c (.pv (.bool false))), none, 2147483647⟩,
 ⟨(some 137), .mv (.t 136), none, 4294967295⟩,
 ⟨(some 138), .mv (.t 7), (some (137, true)), 8589934591⟩,
 ⟨(some 139), .iaddr 7 (.t 138) (.c (.pv (.int .i64 (0)))), (some (137, true)), 17179869183⟩,
 ⟨(some 140), .faddr (.t 139) 1, (some (137, true)), 34359738367⟩,
 ⟨(some 141), .load false 1 (.t 140), (some (137, true)), 68719476735⟩,
 ⟨(some 142), .bin .eql (.t 141) (.c (.pv (.str [97, 98, 99, 100, 88, 102]))), (some (137, true)), 137438953471⟩,
 ⟨(some 143), .pick (.t 137) (.t 142) (.c (.pv (.bool false))), none, 274877906943⟩,
 ⟨(some 144), .mv (.t 143), none, 549755813887⟩,
 ⟨(some 145), .load true 7 (.t 9), (some (144, true)), 1099511627775⟩,
 ⟨(some 146), .call (.f n_law11_name) [.c (.pv (.str [97]))], (some (144, true)), 1099511627775⟩,
 ⟨(some 147), .eqs false [0, 1, 0, 2, 0, 0, 0] (.t 145) (.t 146), (some (144, true)), 4398046511103⟩,
 ⟨(some 148), .pick (.t 144) (.t 147) (.c (.pv (.bool false))), none, 8796093022207⟩,
 ⟨(some 149), .mv (.t 148), none, 17592186044415⟩,
 ⟨(some 150), .mv (.t 12), (some (149, true)), 35184372088831⟩,
 ⟨(some 151), .pick (.t 149) (.t 150) (.c (.pv (.bool false))), none, 70368744177663⟩,
 ⟨(some 152), .mv (.t 151), none, 140737488355327⟩,
 ⟨(some 153), .faddr (.t 11) 2, (some (152, true)), 281474976710655⟩,
 ⟨(some 154), .load false 1 (.t 153), (some (152, true)), 562949953421311⟩,
 ⟨(some 155), .bin .eql (.t 154) (.c (.pv (.int .i64 (7)))), (some (152, true)), 1125899906842623⟩,
 ⟨(some 156), .pick (.t 152) (.t 155) (.c (.pv (.bool false))), none, 2251799813685247⟩,
 ⟨(some 157), .mv (.t 156), none, 4503599627370495⟩,
 ⟨(some 158), .mv (.t 17), (some (157, true)), 9007199254740991⟩,
 ⟨(some 159), .bin .eql (.t 158) (.c (.pv (.int .i64 (30)))), (some (157, true)), 18014398509481983⟩,
 ⟨(some 160), .pick (.t 157) (.t 159) (.c (.pv (.bool false))), none, 36028797018963967⟩,
 ⟨(some 161), .mv (.t 160), none, 72057594037927935⟩,
 ⟨(some 162), .mv (.t 19), (some (161, true)), 144115188075855871⟩,
 ⟨(some 163), .bin .eql (.t 162) (.c (.pv (.int .i64 (3)))), (some (161, true)), 288230376151711743⟩,
 ⟨(some 164), .pick (.t 161) (.t 163) (.c (.pv (.bool false))), none, 576460752303423487⟩,
 ⟨(some 165), .mv (.t 164), none, 1152921504606846975⟩,
 ⟨(some 166), .mv (.t 1), (some (165, true)), 2305843009213693951⟩,
 ⟨(some 167), .call (.f n_law11_str) [.c (.pv (.int .i64 (0))), .c (.pv (.int .i64 (0))), .c (.pv (.int .i64 (1)))], (some (165, true)), 2305843009213693951⟩,
 ⟨(some 168), .call (.f n_law11_name) [.c (.pv (.str [97]))], (some (165, true)), 6917529027641081855⟩,
 ⟨(some 169), .call (.f n_heap_Equal) [.t 166, .t 167, .t 168], (some (165, true)), 18446744073709551615⟩,
 ⟨(some 170), .pick (.t 165) (.t 169) (.c (.pv (.bool false))), none, 36893488147419103231⟩,
 ⟨(some 171), .mv (.t 170), none, 73786976294838206463⟩,
 ⟨(some 172), .mv (.t 1), (some (171, true)), 147573952589676412927⟩,
 ⟨(some 173), .build [.pv (.int .i64 (0)), .pv (.bool false), .pv (.int .i64 (0)), .pv (.str []), .pv (.int .i64 (0)), .pv (.int .i64 (0)), .pv (.int .i64 (0))] [(0, 1, .c (.pv (.int .i64 (7)))), (4, 1, .c (.pv (.int .i64 (1)))), (6, 1, .c (.pv (.int .i64 (1))))], (some (171, true)), 147573952589676412927⟩,
 ⟨(some 174), .bsl 7 1 [.pv (.int .i64 (0)), .pv (.bool false), .pv (.int .i64 (0)), .pv (.str []), .pv (.int .i64 (0)), .pv (.int .i64 (0)), .pv (.int .i64 (0))] [(0, .t 173)], (some (171, true)), 442721857769029238783⟩,
 ⟨(some 175), .call (.f n_heap_Reach) [.t 172, .t 174], (some (171, true)), 1180591620717411303423⟩,
 ⟨(some 176), .bsl 1 3 [.pv (.bool false)] [(0, .c (.pv (.bool true))), (1, .c (.pv (.bool true))), (2, .c (.pv (.bool false)))], (some (171, true)), 147573952589676412927⟩,
 ⟨(some 177), .call (.f n_slices_Equal_bool) [.t 175, .t 176], (some (171, true)), 4722366482869645213695⟩,
 ⟨(some 178), .pick (.t 171) (.t 177) (.c (.pv (.bool false))), none, 9444732965739290427391⟩,
 ⟨(some 179), .mv (.t 178), none, 18889465931478580854783⟩,
 ⟨(some 180), .build [.pv (.int .i64 (0)), .pv (.str []), .emp 7, .emp 7, .emp 7, .pv (.int .i64 (0)), .pv (.int .i64 (0))] [], (some (179, true)), 37778931862957161709567⟩,
 ⟨(some 181), .bsl 7 1 [.pv (.int .i64 (0)), .pv (.str []), .emp 7, .emp 7, .emp 7, .pv (.int .i64 (0)), .pv (.int .i64 (0))] [(0, .t 180)], (some (179, true)), 75557863725914323419135⟩,
 ⟨(some 182), .call (.f n_heap_Check) [.t 181], (some (179, true)), 151115727451828646838271⟩,
 ⟨(some 183), .bin .eql (.t 182) (.c (.pv (.int .i64 (210)))), (some (179, true)), 302231454903657293676543⟩,
 ⟨(some 184), .pick (.t 179) (.t 183) (.c (.pv (.bool false))), none, 604462909807314587353087⟩,
 ⟨(some 0), .mv (.t 184), none, 1208925819614629174706175⟩] true)
 (.ret)))))))))))))⟩
def c_heap_Check : RFn := ⟨1, 32, [.tmp 2],
 .seq (.reg [⟨(some 2), .mv (.c (.pv (.int .i64 (0)))), none, 0⟩] false)
 (.scope
 (.seq (.seq (.reg [⟨(some 9), .mv (.t 0), none, 0⟩,
 ⟨(some 10), .call (.f n_heap_Total) [.t 9], none, 1⟩,
 ⟨(some 11), .bin .gtr (.t 10) (.c (.pv (.int .i64 (20000)))), none, 3⟩] false)
 (.cond (.t 11)
 (.seq (.reg [⟨(some 2), .mv (.c (.pv (.int .i64 (210)))), none, 0⟩] false)
 (.ret))
 (.skip)))
 (.seq (.reg [⟨(some 12), .mv (.t 0), none, 0⟩,
 ⟨(some 13), .build [.emp 7] [(0, 1, .t 12)], none, 1⟩,
 ⟨(some 3), .alloc [.emp 7], none, 0⟩,
 ⟨none, .store 1 (.t 3) (.t 13), none, 7⟩,
 ⟨(some 4), .mv (.c (.pv (.int .i64 (0)))), none, 15⟩] false)
 (.seq (.skip)
 (.seq (.seq (.reg [⟨(some 14), .mv (.t 0), none, 0⟩,
 ⟨(some 15), .slen (.t 14), none, 1⟩,
 ⟨(some 16), .mv (.c (.pv (.int .i64 (0)))), none, 0⟩] false)
 (.block 0
 (.loop [3, 4, 14, 15, 16]
 (.seq (.reg [⟨(some 17), .bin .lss (.t 16) (.t 15), none, 0⟩] false)
 (.seq (.cond (.t 17)
 (.skip)
 (.exit 0))
 (.seq (.block 1
 (.seq (.reg [⟨(some 18), .iaddr 7 (.t 14) (.t 16), none, 0⟩,
 ⟨(some 19), .load true 7 (.t 18), none, 1⟩,
 ⟨(some 6), .alloc [.pv (.int .i64 (0)), .pv (.str []), .emp 7, .emp 7, .emp 7, .pv (.int .i64 (0)), .pv (.int .i64 (0))], none, 0⟩,
 ⟨none, .store 7 (.t 6) (.t 19), none, 7⟩] false)
 (.seq (.reg [⟨(some 20), .build [.pv .nilFunc, .pv .nilFunc, .pv .nilFunc] [(0, 1, .f n_heap_store_bare), (1, 1, .f n_heap_store_limited), (2, 1, .f n_heap_store_keyed)], none, 0⟩,
 ⟨(some 21), .mv (.c (.pv (.int .i64 (0)))), none, 0⟩] false)
 (.block 2
 (.loop [3, 4, 6, 14, 15, 16, 20, 21]
 (.seq (.reg [⟨(some 22), .bin .lss (.t 21) (.c (.pv (.int .i64 (3)))), none, 0⟩] false)
 (.seq (.cond (.t 22)
 (.skip)
 (.exit 2))
 (.seq (.block 3
 (.seq (.reg [⟨(some 23), .index false 3 1 (.t 20) (.t 21), none, 0⟩,
 ⟨(some 8), .mv (.t 23), none, 1⟩] false)
 (.seq (.reg [⟨(some 24), .mv (.t 8), none, 0⟩,
 ⟨(some 25), .load true 1 (.t 3), none, 0⟩,
 ⟨(some 26), .load true 7 (.t 6), none, 0⟩,
 ⟨(some 27), .call (.t 24) [.t 25, .t 26], none, 7⟩,
 ⟨(some 28), .not (.t 27), none, 15⟩] false)
 (.cond (.t 28)
 (.seq (.reg [⟨(some 4), .mv (.c (.pv (.int .i64 (210)))), none, 0⟩] false)
 (.exit 0))
 (.skip)))))
 (.reg [⟨(some 29), .bin .add (.t 21) (.c (.pv (.int .i64 (1)))), none, 0⟩,
 ⟨(some 21), .mv (.t 29), none, 1⟩] false)))))))))
 (.reg [⟨(some 30), .bin .add (.t 16) (.c (.pv (.int .i64 (1)))), none, 0⟩,
 ⟨(some 16), .mv (.t 30), none, 1⟩] false)))))))
 (.seq (.reg [⟨(some 31), .mv (.t 4), none, 0⟩,
 ⟨(some 2), .mv (.t 31), none, 1⟩] false)
 (.ret)))))))⟩
def c_heap_Total : RFn := ⟨1, 18, [.tmp 2],
 .seq (.reg [⟨(some 2), .mv (.c (.pv (.int .i64 (0)))), none, 0⟩] false)
 (.seq (.reg [⟨(some 3), .mv (.c (.pv (.int .i64 (0)))), none, 0⟩] false)
 (.seq (.seq (.reg [⟨(some 6), .mv (.t 0), none, 0⟩,
 ⟨(some 7), .slen (.t 6), none, 1⟩,
 ⟨(some 8), .mv (.c (.pv (.int .i64 (0)))), none, 0⟩] false)
 (.block 0
 (.loop [3, 6, 7, 8]
 (.seq (.reg [⟨(some 9), .bin .lss (.t 8) (.t 7), none, 0⟩] false)
 (.seq (.cond (.t 9)
 (.skip)
 (.exit 0))
 (.seq (.block 1
 (.seq (.reg [⟨(some 10), .iaddr 7 (.t 6) (.t 8), none, 0⟩,
 ⟨(some 11), .load true 7 (.t 10), none, 1⟩,
 ⟨(some 5), .alloc [.pv (.int .i64 (0)), .pv (.str []), .emp 7, .emp 7, .emp 7, .pv (.int .i64 (0)), .pv (.int .i64 (0))], none, 0⟩,
 ⟨none, .store 7 (.t 5) (.t 11), none, 7⟩] false)
 (.reg [⟨(some 12), .mv (.t 3), none, 0⟩,
 ⟨(some 13), .load true 7 (.t 5), none, 0⟩,
 ⟨(some 14), .call (.f n_heap_Size) [.t 13], none, 2⟩,
 ⟨(some 15), .bin .add (.t 12) (.t 14), none, 7⟩,
 ⟨(some 3), .mv (.t 15), none, 15⟩] false)))
 (.reg [⟨(some 16), .bin .add (.t 8) (.c (.pv (.int .i64 (1)))), none, 0⟩,
 ⟨(some 8), .mv (.t 16), none, 1⟩] false)))))))
 (.seq (.reg [⟨(some 17), .mv (.t 3), none, 0⟩,
 ⟨(some 2), .mv (.t 17), none, 1⟩] false)
 (.ret))))⟩
def c_heap_Size : RFn := ⟨1, 20, [.tmp 2],
 .seq (.reg [⟨(some 1), .box 7 (.t 0), none, 0⟩,
 ⟨(some 2), .mv (.c (.pv (.int .i64 (0)))), none, 0⟩] false)
 (.seq (.seq (.reg [⟨(some 3), .faddr (.t 1) 0, none, 0⟩,
 ⟨(some 4), .load false 1 (.t 3), none, 1⟩,
 ⟨(some 5), .bin .eql (.t 4) (.c (.pv (.int .i64 (3)))), none, 3⟩] false)
 (.cond (.t 5)
 (.seq (.reg [⟨(some 6), .faddr (.t 1) 5, none, 0⟩,
 ⟨(some 7), .load false 1 (.t 6), none, 1⟩,
 ⟨(some 8), .mm false [.t 7, .c (.pv (.int .i64 (200)))], none, 3⟩,
 ⟨(some 9), .mm true [.c (.pv (.int .i64 (0))), .t 8], none, 7⟩,
 ⟨(some 10), .bin .mul (.c (.pv (.int .i64 (2)))) (.t 9), none, 15⟩,
 ⟨(some 11), .bin .add (.c (.pv (.int .i64 (1)))) (.t 10), none, 31⟩,
 ⟨(some 2), .mv (.t 11), none, 63⟩] false)
 (.ret))
 (.skip)))
 (.seq (.reg [⟨(some 12), .faddr (.t 1) 1, none, 0⟩,
 ⟨(some 13), .load false 1 (.t 12), none, 1⟩,
 ⟨(some 14), .strlen (.t 13), none, 3⟩,
 ⟨(some 15), .bin .add (.c (.pv (.int .i64 (1)))) (.t 14), none, 7⟩,
 ⟨(some 16), .faddr (.t 1) 2, none, 0⟩,
 ⟨(some 17), .load false 1 (.t 16), none, 16⟩,
 ⟨(some 18), .slen (.t 17), none, 48⟩,
 ⟨(some 19), .bin .add (.t 15) (.t 18), none, 127⟩,
 ⟨(some 2), .mv (.t 19), none, 255⟩] false)
 (.ret)))⟩
def c_heap_Fits : RFn := ⟨2, 51, [.tmp 4],
 .seq (.reg [⟨(some 3), .box 7 (.t 1), none, 0⟩,
 ⟨(some 4), .mv (.c (.pv (.bool false))), none, 0⟩] false)
 (.seq (.seq (.reg [⟨(some 6), .load true 7 (.t 3), none, 0⟩,
 ⟨(some 7), .call (.f n_object_Check) [.t 6], none, 1⟩,
 ⟨(some 8), .bin .neq (.t 7) (.c (.pv (.int .i64 (0)))), none, 3⟩] false)
 (.cond (.t 8)
 (.seq (.reg [⟨(some 4), .mv (.c (.pv (.bool false))), none, 0⟩] false)
 (.ret))
 (.skip)))
 (.seq (.reg [⟨(some 9), .faddr (.t 3) 0, none, 0⟩,
 ⟨(some 10), .load false 1 (.t 9), none, 1⟩,
 ⟨(some 11), .call (.f n_heap_cellKind) [.t 10], none, 3⟩,
 ⟨(some 5), .mv (.t 11), none, 7⟩] false)
 (.seq (.seq (.reg [⟨(some 12), .mv (.t 5), none, 0⟩,
 ⟨(some 13), .bin .eql (.t 12) (.c (.pv (.int .i64 (0)))), none, 1⟩] false)
 (.cond (.t 13)
 (.seq (.reg [⟨(some 4), .mv (.c (.pv (.bool true))), none, 0⟩] false)
 (.ret))
 (.skip)))
 (.seq (.seq (.reg [⟨(some 14), .faddr (.t 3) 4, none, 0⟩,
 ⟨(some 15), .load false 1 (.t 14), none, 1⟩,
 ⟨(some 16), .mv (.t 0), none, 0⟩,
 ⟨(some 17), .slen (.t 16), none, 4⟩,
 ⟨(some 18), .bin .geq (.t 15) (.t 17), none, 15⟩,
 ⟨(some 19), .mv (.t 18), none, 31⟩,
 ⟨(some 20), .mv (.t 0), (some (19, false)), 63⟩,
 ⟨(some 21), .faddr (.t 3) 4, (some (19, false)), 63⟩,
 ⟨(some 22), .load false 1 (.t 21), (some (19, false)), 191⟩,
 ⟨(some 23), .iaddr 7 (.t 20) (.t 22), (some (19, false)), 511⟩,
 ⟨(some 24), .faddr (.t 23) 0, (some (19, false)), 1023⟩,
 ⟨(some 25), .load false 1 (.t 24), (some (19, false)), 2047⟩,
 ⟨(some 26), .mv (.t 5), (some (19, false)), 63⟩,
 ⟨(some 27), .bin .neq (.t 25) (.t 26), (some (19, false)), 8191⟩,
 ⟨(some 28), .pick (.t 19) (.c (.pv (.bool true))) (.t 27), none, 16383⟩] false)
 (.cond (.t 28)
 (.seq (.reg [⟨(some 4), .mv (.c (.pv (.bool false))), none, 0⟩] false)
 (.ret))
 (.skip)))
 (.seq (.reg [⟨(some 29), .faddr (.t 3) 0, none, 0⟩,
 ⟨(some 30), .load false 1 (.t 29), none, 1⟩,
 ⟨(some 31), .bin .eql (.t 30) (.c (.pv (.int .i64 (9)))), none, 3⟩,
 ⟨(some 32), .mv (.t 31), none, 7⟩,
 ⟨(some 33), .faddr (.t 3) 0, (some (32, false)), 15⟩,
 ⟨(some 34), .load false 1 (.t 33), (some (32, false)), 31⟩,
 ⟨(some 35), .bin .eql (.t 34) (.c (.pv (.int .i64 (11)))), (some (32, false)), 63⟩,
 ⟨(some 36), .pick (.t 32) (.c (.pv (.bool true))) (.t 35), none, 127⟩,
 ⟨(some 37), .mv (.t 36), none, 255⟩,
 ⟨(some 38), .faddr (.t 3) 5, (some (37, false)), 511⟩,
 ⟨(some 39), .load false 1 (.t 38), (some (37, false)), 1023⟩,
 ⟨(some 40), .faddr (.t 3) 6, (some (37, false)), 511⟩,
 ⟨(some 41), .load false 1 (.t 40), (some (37, false)), 2559⟩,
 ⟨(some 42), .bin .add (.t 39) (.t 41), (some (37, false)), 8191⟩,
 ⟨(some 43), .mv (.t 0), (some (37, false)), 511⟩,
 ⟨(some 44), .faddr (.t 3) 4, (some (37, false)), 511⟩,
 ⟨(some 45), .load false 1 (.t 44), (some (37, false)), 33279⟩,
 ⟨(some 46), .iaddr 7 (.t 43) (.t 45), (some (37, false)), 115199⟩,
 ⟨(some 47), .load true 7 (.t 46), (some (37, false)), 246271⟩,
 ⟨(some 48), .call (.f n_heap_length) [.t 47], (some (37, false)), 508415⟩,
 ⟨(some 49), .bin .leq (.t 42) (.t 48), (some (37, false)), 1048575⟩,
 ⟨(some 50), .pick (.t 37) (.c (.pv (.bool true))) (.t 49), none, 2097151⟩,
 ⟨(some 4), .mv (.t 50), none, 4194303⟩] true)
 (.ret))))))⟩
def c_heap_New : RFn := ⟨2, 24, [.tmp 4, .tmp 5, .tmp 6],
 .seq (.reg [⟨(some 3), .box 7 (.t 1), none, 0⟩,
 ⟨(some 4), .mv (.c (.emp 7)), none, 0⟩,
 ⟨(some 5), .mv (.c (.pv (.int .i64 (0)))), none, 2⟩,
 ⟨(some 6), .mv (.c (.pv (.int .i64 (0)))), none, 6⟩] false)
 (.seq (.seq (.reg [⟨(some 7), .mv (.t 0), none, 0⟩,
 ⟨(some 8), .call (.f n_heap_Total) [.t 7], none, 1⟩,
 ⟨(some 9), .load true 7 (.t 3), none, 0⟩,
 ⟨(some 10), .call (.f n_heap_Size) [.t 9], none, 7⟩,
 ⟨(some 11), .bin .add (.t 8) (.t 10), none, 15⟩,
 ⟨(some 12), .bin .gtr (.t 11) (.c (.pv (.int .i64 (20000)))), none, 31⟩] true)
 (.cond (.t 12)
 (.seq (.reg [⟨(some 4), .mv (.c (.emp 7)), none, 0⟩,
 ⟨(some 5), .mv (.c (.pv (.int .i64 (0)))), none, 1⟩,
 ⟨(some 6), .mv (.c (.pv (.int .i64 (27)))), none, 3⟩] false)
 (.ret))
 (.skip)))
 (.seq (.reg [⟨(some 13), .mv (.t 0), none, 0⟩,
 ⟨(some 14), .mv (.t 0), none, 0⟩,
 ⟨(some 15), .slen (.t 14), none, 2⟩,
 ⟨(some 16), .mv (.t 0), none, 0⟩,
 ⟨(some 17), .slen (.t 16), none, 8⟩,
 ⟨(some 18), .slice 7 (.t 13) none (some (.t 15)) (some (.t 17)), none, 31⟩,
 ⟨(some 19), .load true 7 (.t 3), none, 0⟩,
 ⟨(some 20), .bsl 7 1 [.pv (.int .i64 (0)), .pv (.str []), .emp 7, .emp 7, .emp 7, .pv (.int .i64 (0)), .pv (.int .i64 (0))] [(0, .t 19)], none, 64⟩,
 ⟨(some 21), .append 7 112 (.t 18) (.t 20), none, 255⟩,
 ⟨(some 22), .mv (.t 0), none, 0⟩,
 ⟨(some 23), .slen (.t 22), none, 512⟩,
 ⟨(some 4), .mv (.t 21), none, 511⟩,
 ⟨(some 5), .mv (.t 23), none, 4095⟩,
 ⟨(some 6), .mv (.c (.pv (.int .i64 (0)))), none, 8191⟩] true)
 (.ret)))⟩
def c_ref11_Same : RFn := ⟨2, 27, [.tmp 4],
 .seq (.reg [⟨(some 4), .mv (.c (.pv (.bool false))), none, 0⟩] false)
 (.seq (.seq (.reg [⟨(some 6), .mv (.t 0), none, 0⟩,
 ⟨(some 7), .slen (.t 6), none, 1⟩,
 ⟨(some 8), .mv (.t 1), none, 0⟩,
 ⟨(some 9), .slen (.t 8), none, 4⟩,
 ⟨(some 10), .bin .neq (.t 7) (.t 9), none, 15⟩] false)
 (.cond (.t 10)
 (.seq (.reg [⟨(some 4), .mv (.c (.pv (.bool false))), none, 0⟩] false)
 (.ret))
 (.skip)))
 (.seq (.seq (.reg [⟨(some 5), .mv (.c (.pv (.int .i64 (0)))), none, 0⟩] false)
 (.block 0
 (.loop [0, 1, 5]
 (.seq (.seq (.reg [⟨(some 11), .mv (.t 5), none, 0⟩,
 ⟨(some 12), .mv (.t 0), none, 0⟩,
 ⟨(some 13), .slen (.t 12), none, 2⟩,
 ⟨(some 14), .bin .lss (.t 11) (.t 13), none, 7⟩] false)
 (.cond (.t 14)
 (.skip)
 (.exit 0)))
 (.seq (.block 1
 (.seq (.reg [⟨(some 17), .mv (.t 0), none, 0⟩,
 ⟨(some 18), .mv (.t 5), none, 0⟩,
 ⟨(some 19), .iaddr 7 (.t 17) (.t 18), none, 3⟩,
 ⟨(some 20), .load true 7 (.t 19), none, 7⟩,
 ⟨(some 21), .mv (.t 1), none, 0⟩,
 ⟨(some 22), .mv (.t 5), none, 0⟩,
 ⟨(some 23), .iaddr 7 (.t 21) (.t 22), none, 48⟩,
 ⟨(some 24), .load true 7 (.t 23), none, 112⟩,
 ⟨(some 25), .call (.f n_ref11_SameCell) [.t 20, .t 24], none, 255⟩,
 ⟨(some 26), .not (.t 25), none, 511⟩] true)
 (.cond (.t 26)
 (.seq (.reg [⟨(some 4), .mv (.c (.pv (.bool false))), none, 0⟩] false)
 (.ret))
 (.skip))))
 (.reg [⟨(some 15), .mv (.t 5), none, 0⟩,
 ⟨(some 16), .bin .add (.t 15) (.c (.pv (.int .i64 (1)))), none, 1⟩,
 ⟨(some 5), .mv (.t 16), none, 3⟩] false))))))
 (.seq (.reg [⟨(some 4), .mv (.c (.pv (.bool true))), none, 0⟩] false)
 (.ret))))⟩
def c_ref11_Draft_Heap : RFn := ⟨1, 29, [.tmp 2],
 .seq (.reg [⟨(some 1), .box 3 (.t 0), none, 0⟩,
 ⟨(some 2), .mv (.c (.emp 7)), none, 0⟩] false)
 (.seq (.reg [⟨(some 5), .bsl 1 2 [.pv (.str [])] [(0, .c (.pv (.str [97, 100, 100]))), (1, .c (.pv (.str [112, 111, 112])))], none, 0⟩,
 ⟨(some 6), .call (.f n_ref11_First) [.t 5], none, 1⟩,
 ⟨(some 3), .mv (.t 6), none, 3⟩] false)
 (.seq (.seq (.reg [⟨(some 4), .mv (.c (.pv (.int .i64 (0)))), none, 0⟩] false)
 (.block 0
 (.loop [1, 3, 4]
 (.seq (.seq (.reg [⟨(some 7), .mv (.t 4), none, 0⟩,
 ⟨(some 8), .faddr (.t 1) 0, none, 0⟩,
 ⟨(some 9), .load false 1 (.t 8), none, 2⟩,
 ⟨(some 10), .slen (.t 9), none, 6⟩,
 ⟨(some 11), .bin .lss (.t 7) (.t 10), none, 15⟩,
 ⟨(some 12), .mv (.t 11), none, 31⟩,
 ⟨(some 13), .mv (.t 4), (some (12, true)), 63⟩,
 ⟨(some 14), .bin .lss (.t 13) (.c (.pv (.int .i64 (10)))), (some (12, true)), 127⟩,
 ⟨(some 15), .pick (.t 12) (.t 14) (.c (.pv (.bool false))), none, 255⟩] false)
 (.cond (.t 15)
 (.skip)
 (.exit 0)))
 (.seq (.block 1
 (.reg [⟨(some 18), .mv (.t 3), none, 0⟩,
 ⟨(some 19), .faddr (.t 1) 0, none, 0⟩,
 ⟨(some 20), .load false 1 (.t 19), none, 2⟩,
 ⟨(some 21), .mv (.t 4), none, 0⟩,
 ⟨(some 22), .iaddr 5 (.t 20) (.t 21), none, 14⟩,
 ⟨(some 23), .load true 5 (.t 22), none, 30⟩,
 ⟨(some 24), .mv (.t 3), none, 0⟩,
 ⟨(some 25), .call (.f n_ref11_Word_Cell) [.t 23, .t 24], none, 126⟩,
 ⟨(some 26), .bsl 7 1 [.pv (.int .i64 (0)), .pv (.str []), .emp 7, .emp 7, .emp 7, .pv (.int .i64 (0)), .pv (.int .i64 (0))] [(0, .t 25)], none, 254⟩,
 ⟨(some 27), .append 7 112 (.t 18) (.t 26), none, 511⟩,
 ⟨(some 3), .mv (.t 27), none, 1023⟩] false))
 (.reg [⟨(some 16), .mv (.t 4), none, 0⟩,
 ⟨(some 17), .bin .add (.t 16) (.c (.pv (.int .i64 (1)))), none, 1⟩,
 ⟨(some 4), .mv (.t 17), none, 3⟩] false))))))
 (.seq (.reg [⟨(some 28), .mv (.t 3), none, 0⟩,
 ⟨(some 2), .mv (.t 28), none, 1⟩] false)
 (.ret))))⟩
def c_heap_Equal : RFn := ⟨3, 58, [.tmp 6],
 .seq (.reg [⟨(some 4), .box 7 (.t 1), none, 0⟩,
 ⟨(some 5), .box 7 (.t 2), none, 0⟩,
 ⟨(some 6), .mv (.c (.pv (.bool false))), none, 0⟩] false)
 (.seq (.seq (.reg [⟨(some 13), .mv (.t 0), none, 0⟩,
 ⟨(some 14), .load true 7 (.t 4), none, 0⟩,
 ⟨(some 15), .call (.f n_heap_Fits) [.t 13, .t 14], none, 3⟩,
 ⟨(some 16), .not (.t 15), none, 7⟩,
 ⟨(some 17), .mv (.t 16), none, 15⟩,
 ⟨(some 18), .mv (.t 0), (some (17, false)), 31⟩,
 ⟨(some 19), .load true 7 (.t 5), (some (17, false)), 31⟩,
 ⟨(some 20), .call (.f n_heap_Fits) [.t 18, .t 19], (some (17, false)), 127⟩,
 ⟨(some 21), .not (.t 20), (some (17, false)), 255⟩,
 ⟨(some 22), .pick (.t 17) (.c (.pv (.bool true))) (.t 21), none, 511⟩] false)
 (.cond (.t 22)
 (.seq (.reg [⟨(some 6), .mv (.c (.pv (.bool false))), none, 0⟩] false)
 (.ret))
 (.skip)))
 (.seq (.seq (.reg [⟨(some 24), .load true 7 (.t 4), none, 0⟩,
 ⟨(some 25), .load true 7 (.t 5), none, 0⟩,
 ⟨(some 26), .call (.f n_object_Compare) [.t 24, .t 25], none, 3⟩,
 ⟨(some 23), .mv (.t 26), none, 7⟩,
 ⟨(some 27), .extract (.t 23) 0, none, 15⟩,
 ⟨(some 28), .extract (.t 23) 1, none, 15⟩,
 ⟨(some 7), .mv (.t 27), none, 31⟩,
 ⟨(some 8), .mv (.t 28), none, 127⟩] false)
 (.seq (.reg [⟨(some 29), .mv (.t 8), none, 0⟩,
 ⟨(some 30), .bin .eql (.t 29) (.c (.pv (.int .i64 (0)))), none, 1⟩] false)
 (.cond (.t 30)
 (.seq (.reg [⟨(some 31), .mv (.t 7), none, 0⟩,
 ⟨(some 32), .bin .eql (.t 31) (.c (.pv (.int .i64 (0)))), none, 1⟩,
 ⟨(some 6), .mv (.t 32), none, 3⟩] false)
 (.ret))
 (.skip))))
 (.seq (.reg [⟨(some 34), .mv (.t 0), none, 0⟩,
 ⟨(some 35), .load true 7 (.t 4), none, 0⟩,
 ⟨(some 36), .call (.f n_heap_octets) [.t 34, .t 35], none, 3⟩,
 ⟨(some 33), .mv (.t 36), none, 7⟩,
 ⟨(some 37), .extract (.t 33) 0, none, 15⟩,
 ⟨(some 38), .extract (.t 33) 1, none, 15⟩,
 ⟨(some 9), .mv (.t 37), none, 31⟩,
 ⟨(some 10), .mv (.t 38), none, 127⟩] false)
 (.seq (.reg [⟨(some 40), .mv (.t 0), none, 0⟩,
 ⟨(some 41), .load true 7 (.t 5), none, 0⟩,
 ⟨(some 42), .call (.f n_heap_octets) [.t 40, .t 41], none, 3⟩,
 ⟨(some 39), .mv (.t 42), none, 7⟩,
 ⟨(some 43), .extract (.t 39) 0, none, 15⟩,
 ⟨(some 44), .extract (.t 39) 1, none, 15⟩,
 ⟨(some 11), .mv (.t 43), none, 31⟩,
 ⟨(some 12), .mv (.t 44), none, 127⟩] false)
 (.seq (.seq (.reg [⟨(some 45), .mv (.t 10), none, 0⟩,
 ⟨(some 46), .mv (.t 45), none, 1⟩,
 ⟨(some 47), .mv (.t 12), (some (46, true)), 3⟩,
 ⟨(some 48), .pick (.t 46) (.t 47) (.c (.pv (.bool false))), none, 7⟩] false)
 (.cond (.t 48)
 (.seq (.reg [⟨(some 49), .mv (.t 9), none, 0⟩,
 ⟨(some 50), .mv (.t 11), none, 0⟩,
 ⟨(some 51), .bin .eql (.t 49) (.t 50), none, 3⟩,
 ⟨(some 6), .mv (.t 51), none, 7⟩] false)
 (.ret))
 (.skip)))
 (.seq (.reg [⟨(some 52), .faddr (.t 5) 1, none, 0⟩,
 ⟨(some 53), .load false 1 (.t 52), none, 1⟩,
 ⟨(some 54), .faddr (.t 4) 1, none, 3⟩,
 ⟨none, .store 1 (.t 54) (.t 53), none, 7⟩] false)
 (.seq (.reg [⟨(some 55), .load true 7 (.t 4), none, 0⟩,
 ⟨(some 56), .load true 7 (.t 5), none, 0⟩,
 ⟨(some 57), .eqs false [0, 1, 0, 2, 0, 0, 0] (.t 55) (.t 56), none, 3⟩,
 ⟨(some 6), .mv (.t 57), none, 7⟩] false)
 (.ret))))))))⟩
def c_slices_Equal_bool : RFn := ⟨2, 26, [.tmp 4],
 .seq (.reg [⟨(some 4), .mv (.c (.pv (.bool false))), none, 0⟩] false)
 (.seq (.seq (.reg [⟨(some 6), .mv (.t 0), none, 0⟩,
 ⟨(some 7), .slen (.t 6), none, 1⟩,
 ⟨(some 8), .mv (.t 1), none, 0⟩,
 ⟨(some 9), .slen (.t 8), none, 4⟩,
 ⟨(some 10), .bin .neq (.t 7) (.t 9), none, 15⟩] false)
 (.cond (.t 10)
 (.seq (.reg [⟨(some 4), .mv (.c (.pv (.bool false))), none, 0⟩] false)
 (.ret))
 (.skip)))
 (.seq (.seq (.reg [⟨(some 11), .mv (.t 0), none, 0⟩,
 ⟨(some 12), .slen (.t 11), none, 1⟩,
 ⟨(some 13), .mv (.c (.pv (.int .i64 (0)))), none, 0⟩] false)
 (.block 0
 (.loop [0, 1, 12, 13]
 (.seq (.reg [⟨(some 14), .bin .lss (.t 13) (.t 12), none, 0⟩] false)
 (.seq (.cond (.t 14)
 (.skip)
 (.exit 0))
 (.seq (.block 1
 (.seq (.reg [⟨(some 15), .mv (.t 13), none, 0⟩,
 ⟨(some 5), .mv (.t 15), none, 1⟩] false)
 (.seq (.reg [⟨(some 16), .mv (.t 0), none, 0⟩,
 ⟨(some 17), .mv (.t 5), none, 0⟩,
 ⟨(some 18), .iaddr 1 (.t 16) (.t 17), none, 3⟩,
 ⟨(some 19), .load false 1 (.t 18), none, 7⟩,
 ⟨(some 20), .mv (.t 1), none, 0⟩,
 ⟨(some 21), .mv (.t 5), none, 0⟩,
 ⟨(some 22), .iaddr 1 (.t 20) (.t 21), none, 48⟩,
 ⟨(some 23), .load false 1 (.t 22), none, 112⟩,
 ⟨(some 24), .eqb true (.t 19) (.t 23), none, 255⟩] true)
 (.cond (.t 24)
 (.seq (.reg [⟨(some 4), .mv (.c (.pv (.bool false))), none, 0⟩] false)
 (.ret))
 (.skip)))))
 (.reg [⟨(some 25), .bin .add (.t 13) (.c (.pv (.int .i64 (1)))), none, 0⟩,
 ⟨(some 13), .mv (.t 25), none, 1⟩] false)))))))
 (.seq (.reg [⟨(some 4), .mv (.c (.pv (.bool true))), none, 0⟩] false)
 (.ret))))⟩
def c_heap_Reach : RFn := ⟨2, 24, [.tmp 4],
 .seq (.reg [⟨(some 2), .box 1 (.t 0), none, 0⟩,
 ⟨(some 4), .mv (.c (.emp 1)), none, 0⟩] false)
 (.seq (.reg [⟨(some 9), .load false 1 (.t 2), none, 0⟩,
 ⟨(some 10), .slen (.t 9), none, 1⟩,
 ⟨(some 11), .mksl 1 1 [.bool false] (.t 10), none, 3⟩,
 ⟨(some 5), .alloc [.emp 1], none, 0⟩,
 ⟨none, .store 1 (.t 5) (.t 11), none, 15⟩] false)
 (.seq (.reg [⟨(some 6), .alloc [.pv .nilFunc], none, 0⟩] false)
 (.seq (.reg [⟨(some 12), .mkf (.func n_heap_Reach_1) [] [.t 2, .t 5, .t 6], none, 0⟩,
 ⟨none, .store 1 (.t 6) (.t 12), none, 1⟩] false)
 (.seq (.seq (.reg [⟨(some 13), .mv (.t 1), none, 0⟩,
 ⟨(some 14), .slen (.t 13), none, 1⟩,
 ⟨(some 15), .mv (.c (.pv (.int .i64 (0)))), none, 0⟩] false)
 (.block 0
 (.loop [5, 6, 13, 14, 15]
 (.seq (.reg [⟨(some 16), .bin .lss (.t 15) (.t 14), none, 0⟩] false)
 (.seq (.cond (.t 16)
 (.skip)
 (.exit 0))
 (.seq (.block 1
 (.seq (.reg [⟨(some 17), .iaddr 7 (.t 13) (.t 15), none, 0⟩,
 ⟨(some 18), .load true 7 (.t 17), none, 1⟩,
 ⟨(some 8), .alloc [.pv (.int .i64 (0)), .pv (.bool false), .pv (.int .i64 (0)), .pv (.str []), .pv (.int .i64 (0)), .pv (.int .i64 (0)), .pv (.int .i64 (0))], none, 0⟩,
 ⟨none, .store 7 (.t 8) (.t 18), none, 7⟩] false)
 (.reg [⟨(some 19), .load false 1 (.t 6), none, 0⟩,
 ⟨(some 20), .load true 7 (.t 8), none, 0⟩,
 ⟨(some 21), .call (.t 19) [.t 20], none, 3⟩] false)))
 (.reg [⟨(some 22), .bin .add (.t 15) (.c (.pv (.int .i64 (1)))), none, 0⟩,
 ⟨(some 15), .mv (.t 22), none, 1⟩] false)))))))
 (.seq (.reg [⟨(some 23), .load false 1 (.t 5), none, 0⟩,
 ⟨(some 4), .mv (.t 23), none, 1⟩] false)
 (.ret))))))⟩
def c_ref11_SameCell : RFn := ⟨2, 52, [.tmp 4],
 .seq (.reg [⟨(some 2), .box 7 (.t 0), none, 0⟩,
 ⟨(some 3), .box 7 (.t 1), none, 0⟩,
 ⟨(some 4), .mv (.c (.pv (.bool false))), none, 0⟩] false)
 (.seq (.reg [⟨(some 5), .faddr (.t 2) 0, none, 0⟩,
 ⟨(some 6), .load false 1 (.t 5), none, 1⟩,
 ⟨(some 7), .faddr (.t 3) 0, none, 0⟩,
 ⟨(some 8), .load false 1 (.t 7), none, 4⟩,
 ⟨(some 9), .bin .eql (.t 6) (.t 8), none, 15⟩,
 ⟨(some 10), .mv (.t 9), none, 31⟩,
 ⟨(some 11), .faddr (.t 2) 1, (some (10, true)), 63⟩,
 ⟨(some 12), .load false 1 (.t 11), (some (10, true)), 127⟩,
 ⟨(some 13), .faddr (.t 3) 1, (some (10, true)), 63⟩,
 ⟨(some 14), .load false 1 (.t 13), (some (10, true)), 319⟩,
 ⟨(some 15), .bin .eql (.t 12) (.t 14), (some (10, true)), 1023⟩,
 ⟨(some 16), .pick (.t 10) (.t 15) (.c (.pv (.bool false))), none, 2047⟩,
 ⟨(some 17), .mv (.t 16), none, 4095⟩,
 ⟨(some 18), .faddr (.t 2) 2, (some (17, true)), 8191⟩,
 ⟨(some 19), .load false 1 (.t 18), (some (17, true)), 16383⟩,
 ⟨(some 20), .faddr (.t 3) 2, (some (17, true)), 8191⟩,
 ⟨(some 21), .load false 1 (.t 20), (some (17, true)), 40959⟩,
 ⟨(some 22), .call (.f n_ref11_sameObjs) [.t 19, .t 21], (some (17, true)), 131071⟩,
 ⟨(some 23), .pick (.t 17) (.t 22) (.c (.pv (.bool false))), none, 262143⟩,
 ⟨(some 24), .mv (.t 23), none, 524287⟩,
 ⟨(some 25), .faddr (.t 2) 3, (some (24, true)), 1048575⟩,
 ⟨(some 26), .load false 1 (.t 25), (some (24, true)), 2097151⟩,
 ⟨(some 27), .faddr (.t 3) 3, (some (24, true)), 1048575⟩,
 ⟨(some 28), .load false 1 (.t 27), (some (24, true)), 5242879⟩,
 ⟨(some 29), .call (.f n_ref11_sameObjs) [.t 26, .t 28], (some (24, true)), 16777215⟩,
 ⟨(some 30), .pick (.t 24) (.t 29) (.c (.pv (.bool false))), none, 33554431⟩,
 ⟨(some 31), .mv (.t 30), none, 67108863⟩,
 ⟨(some 32), .faddr (.t 2) 4, (some (31, true)), 134217727⟩,
 ⟨(some 33), .load false 1 (.t 32), (some (31, true)), 268435455⟩,
 ⟨(some 34), .faddr (.t 3) 4, (some (31, true)), 134217727⟩,
 ⟨(some 35), .load false 1 (.t 34), (some (31, true)), 671088639⟩,
 ⟨(some 36), .call (.f n_ref11_sameObjs) [.t 33, .t 35], (some (31, true)), 2147483647⟩,
 ⟨(some 37), .pick (.t 31) (.t 36) (.c (.pv (.bool false))), none, 4294967295⟩,
 ⟨(some 38), .mv (.t 37), none, 8589934591⟩,
 ⟨(some 39), .faddr (.t 2) 5, (some (38, true)), 17179869183⟩,
 ⟨(some 40), .load false 1 (.t 39), (some (38, true)), 34359738367⟩,
 ⟨(some 41), .faddr (.t 3) 5, (some (38, true)), 17179869183⟩,
 ⟨(some 42), .load false 1 (.t 41), (some (38, true)), 85899345919⟩,
 ⟨(some 43), .bin .eql (.t 40) (.t 42), (some (38, true)), 274877906943⟩,
 ⟨(some 44), .pick (.t 38) (.t 43) (.c (.pv (.bool false))), none, 549755813887⟩,
 ⟨(some 45), .mv (.t 44), none, 1099511627775⟩,
 ⟨(some 46), .faddr (.t 2) 6, (some (45, true)), 2199023255551⟩,
 ⟨(some 47), .load false 1 (.t 46), (some (45, true)), 4398046511103⟩,
 ⟨(some 48), .faddr (.t 3) 6, (some (45, true)), 2199023255551⟩,
 ⟨(some 49), .load false 1 (.t 48), (some (45, true)), 10995116277759⟩,
 ⟨(some 50), .bin .eql (.t 47) (.t 49), (some (45, true)), 35184372088831⟩,
 ⟨(some 51), .pick (.t 45) (.t 50) (.c (.pv (.bool false))), none, 70368744177663⟩,
 ⟨(some 4), .mv (.t 51), none, 140737488355327⟩] false)
 (.ret))⟩
def c_ref11_Word_Cell : RFn := ⟨2, 139, [.cell 4 true 7],
 .seq (.reg [⟨(some 2), .box 5 (.t 0), none, 0⟩,
 ⟨(some 4), .alloc [.pv (.int .i64 (0)), .pv (.str []), .emp 7, .emp 7, .emp 7, .pv (.int .i64 (0)), .pv (.int .i64 (0))], none, 0⟩] false)
 (.seq (.reg [⟨(some 12), .faddr (.t 2) 4, none, 0⟩,
 ⟨(some 13), .load false 1 (.t 12), none, 1⟩,
 ⟨(some 14), .faddr (.t 2) 4, none, 0⟩,
 ⟨(some 15), .load false 1 (.t 14), none, 4⟩,
 ⟨(some 16), .strlen (.t 15), none, 12⟩,
 ⟨(some 17), .mm false [.t 16, .c (.pv (.int .i64 (40)))], none, 28⟩,
 ⟨(some 18), .sslice (.t 13) none (some (.t 17)), none, 63⟩,
 ⟨(some 5), .mv (.t 18), none, 127⟩] false)
 (.seq (.seq (.reg [⟨(some 19), .faddr (.t 2) 0, none, 0⟩,
 ⟨(some 20), .load false 1 (.t 19), none, 1⟩,
 ⟨(some 21), .bin .rem (.t 20) (.c (.pv (.int .u8 (5)))), none, 3⟩] false)
 (.block 0
 (.seq (.seq (.reg [⟨(some 23), .bin .eql (.t 21) (.c (.pv (.int .u8 (0)))), none, 0⟩,
 ⟨(some 22), .mv (.t 23), none, 1⟩] false)
 (.cond (.t 22)
 (.skip)
 (.reg [⟨(some 24), .bin .eql (.t 21) (.c (.pv (.int .u8 (1)))), none, 0⟩,
 ⟨(some 22), .mv (.t 24), none, 1⟩] false)))
 (.cond (.t 22)
 (.seq (.reg [⟨(some 25), .mv (.t 5), none, 0⟩,
 ⟨(some 26), .build [.pv (.int .i64 (0)), .pv (.str []), .emp 7, .emp 7, .emp 7, .pv (.int .i64 (0)), .pv (.int .i64 (0))] [(0, 1, .c (.pv (.int .i64 (1)))), (1, 1, .t 25)], none, 1⟩,
 ⟨none, .store 7 (.t 4) (.t 26), none, 3⟩] false)
 (.ret))
 (.seq (.reg [⟨(some 28), .bin .eql (.t 21) (.c (.pv (.int .u8 (2)))), none, 0⟩,
 ⟨(some 27), .mv (.t 28), none, 1⟩] false)
 (.cond (.t 27)
 (.seq (.reg [⟨(some 29), .build [.pv (.int .i64 (0)), .pv (.str []), .emp 7, .emp 7, .emp 7, .pv (.int .i64 (0)), .pv (.int .i64 (0))] [(0, 1, .c (.pv (.int .i64 (2))))], none, 0⟩,
 ⟨(some 6), .alloc [.pv (.int .i64 (0)), .pv (.str []), .emp 7, .emp 7, .emp 7, .pv (.int .i64 (0)), .pv (.int .i64 (0))], none, 0⟩,
 ⟨none, .store 7 (.t 6) (.t 29), none, 3⟩] false)
 (.seq (.seq (.reg [⟨(some 7), .mv (.c (.pv (.int .i64 (0)))), none, 0⟩] false)
 (.block 1
 (.loop [1, 2, 4, 6, 7]
 (.seq (.seq (.reg [⟨(some 30), .mv (.t 7), none, 0⟩,
 ⟨(some 31), .faddr (.t 2) 1, none, 0⟩,
 ⟨(some 32), .load false 1 (.t 31), none, 2⟩,
 ⟨(some 33), .bin .rem (.t 32) (.c (.pv (.int .u8 (6)))), none, 6⟩,
 ⟨(some 34), .conv .i64 (.t 33), none, 14⟩,
 ⟨(some 35), .bin .lss (.t 30) (.t 34), none, 31⟩] false)
 (.cond (.t 35)
 (.skip)
 (.exit 1)))
 (.seq (.block 2
 (.seq (.reg [⟨(some 38), .faddr (.t 2) 2, none, 0⟩,
 ⟨(some 39), .load false 1 (.t 38), none, 1⟩,
 ⟨(some 40), .mv (.t 7), none, 0⟩,
 ⟨(some 41), .bin .mul (.c (.pv (.int .i64 (5)))) (.t 40), none, 4⟩,
 ⟨(some 42), .conv .u8 (.t 41), none, 12⟩,
 ⟨(some 43), .bin .add (.t 39) (.t 42), none, 31⟩,
 ⟨(some 44), .faddr (.t 2) 1, none, 0⟩,
 ⟨(some 45), .load false 1 (.t 44), none, 64⟩,
 ⟨(some 46), .mv (.t 7), none, 0⟩,
 ⟨(some 47), .conv .u8 (.t 46), none, 256⟩,
 ⟨(some 48), .bin .add (.t 45) (.t 47), none, 960⟩,
 ⟨(some 49), .faddr (.t 2) 2, none, 0⟩,
 ⟨(some 50), .load false 1 (.t 49), none, 2048⟩,
 ⟨(some 51), .mv (.t 7), none, 0⟩,
 ⟨(some 52), .bin .add (.t 51) (.c (.pv (.int .i64 (1)))), none, 8192⟩,
 ⟨(some 53), .conv .u8 (.t 52), none, 24576⟩,
 ⟨(some 54), .bin .mul (.t 50) (.t 53), none, 63488⟩,
 ⟨(some 55), .faddr (.t 2) 3, none, 0⟩,
 ⟨(some 56), .load false 1 (.t 55), none, 131072⟩,
 ⟨(some 57), .mv (.t 7), none, 0⟩,
 ⟨(some 58), .bin .add (.t 57) (.c (.pv (.int .i64 (1)))), none, 524288⟩,
 ⟨(some 59), .conv .i32 (.t 58), none, 1572864⟩,
 ⟨(some 60), .bin .quo (.t 56) (.t 59), none, 4063232⟩,
 ⟨(some 61), .build [.pv (.int .u8 (0)), .pv (.int .u8 (0)), .pv (.int .u8 (0)), .pv (.int .i32 (0)), .pv (.str [])] [(0, 1, .t 43), (1, 1, .t 48), (2, 1, .t 54), (3, 1, .t 60)], none, 8388607⟩,
 ⟨(some 8), .alloc [.pv (.int .u8 (0)), .pv (.int .u8 (0)), .pv (.int .u8 (0)), .pv (.int .i32 (0)), .pv (.str [])], none, 0⟩,
 ⟨none, .store 5 (.t 8) (.t 61), none, 33554431⟩] true)
 (.reg [⟨(some 62), .faddr (.t 6) 2, none, 0⟩,
 ⟨(some 63), .load false 1 (.t 62), none, 1⟩,
 ⟨(some 64), .load true 5 (.t 8), none, 0⟩,
 ⟨(some 65), .mv (.t 1), none, 0⟩,
 ⟨(some 66), .call (.f n_ref11_Word_Obj) [.t 64, .t 65], none, 12⟩,
 ⟨(some 67), .bsl 7 1 [.pv (.int .i64 (0)), .pv (.bool false), .pv (.int .i64 (0)), .pv (.str []), .pv (.int .i64 (0)), .pv (.int .i64 (0)), .pv (.int .i64 (0))] [(0, .t 66)], none, 28⟩,
 ⟨(some 68), .append 7 64 (.t 63) (.t 67), none, 63⟩,
 ⟨(some 69), .faddr (.t 6) 2, none, 127⟩,
 ⟨none, .store 1 (.t 69) (.t 68), none, 255⟩] true)))
 (.reg [⟨(some 36), .mv (.t 7), none, 0⟩,
 ⟨(some 37), .bin .add (.t 36) (.c (.pv (.int .i64 (1)))), none, 1⟩,
 ⟨(some 7), .mv (.t 37), none, 3⟩] false))))))
 (.seq (.reg [⟨(some 70), .load true 7 (.t 6), none, 0⟩,
 ⟨none, .store 7 (.t 4) (.t 70), none, 1⟩] false)
 (.ret))))
 (.seq (.reg [⟨(some 72), .bin .eql (.t 21) (.c (.pv (.int .u8 (3)))), none, 0⟩,
 ⟨(some 71), .mv (.t 72), none, 1⟩] false)
 (.cond (.t 71)
 (.seq (.reg [⟨(some 73), .faddr (.t 2) 1, none, 0⟩,
 ⟨(some 74), .load false 1 (.t 73), none, 1⟩,
 ⟨(some 75), .bin .rem (.t 74) (.c (.pv (.int .u8 (6)))), none, 3⟩,
 ⟨(some 76), .conv .i64 (.t 75), none, 7⟩,
 ⟨(some 77), .call (.f n_ref11_dict) [.t 76], none, 15⟩,
 ⟨(some 9), .alloc [.pv (.int .i64 (0)), .pv (.str []), .emp 7, .emp 7, .emp 7, .pv (.int .i64 (0)), .pv (.int .i64 (0))], none, 0⟩,
 ⟨none, .store 7 (.t 9) (.t 77), none, 63⟩] false)
 (.seq (.seq (.reg [⟨(some 10), .mv (.c (.pv (.int .i64 (0)))), none, 0⟩] false)
 (.block 3
 (.loop [1, 2, 4, 9, 10]
 (.seq (.seq (.reg [⟨(some 78), .mv (.t 10), none, 0⟩,
 ⟨(some 79), .faddr (.t 2) 2, none, 0⟩,
 ⟨(some 80), .load false 1 (.t 79), none, 2⟩,
 ⟨(some 81), .bin .rem (.t 80) (.c (.pv (.int .u8 (4)))), none, 6⟩,
 ⟨(some 82), .conv .i64 (.t 81), none, 14⟩,
 ⟨(some 83), .bin .lss (.t 78) (.t 82), none, 31⟩,
 ⟨(some 84), .mv (.t 83), none, 63⟩,
 ⟨(some 85), .mv (.t 10), (some (84, true)), 127⟩,
 ⟨(some 86), .faddr (.t 9) 5, (some (84, true)), 127⟩,
 ⟨(some 87), .load false 1 (.t 86), (some (84, true)), 383⟩,
 ⟨(some 88), .bin .lss (.t 85) (.t 87), (some (84, true)), 1023⟩,
 ⟨(some 89), .pick (.t 84) (.t 88) (.c (.pv (.bool false))), none, 2047⟩] false)
 (.cond (.t 89)
 (.skip)
 (.exit 3)))
 (.seq (.block 4
 (.seq (.reg [⟨(some 92), .faddr (.t 2) 2, none, 0⟩,
 ⟨(some 93), .load false 1 (.t 92), none, 1⟩,
 ⟨(some 94), .mv (.t 10), none, 0⟩,
 ⟨(some 95), .bin .mul (.c (.pv (.int .i64 (3)))) (.t 94), none, 4⟩,
 ⟨(some 96), .conv .u8 (.t 95), none, 12⟩,
 ⟨(some 97), .bin .add (.t 93) (.t 96), none, 31⟩,
 ⟨(some 98), .faddr (.t 2) 1, none, 0⟩,
 ⟨(some 99), .load false 1 (.t 98), none, 64⟩,
 ⟨(some 100), .mv (.t 10), none, 0⟩,
 ⟨(some 101), .conv .u8 (.t 100), none, 256⟩,
 ⟨(some 102), .bin .add (.t 99) (.t 101), none, 960⟩,
 ⟨(some 103), .faddr (.t 2) 2, none, 0⟩,
 ⟨(some 104), .load false 1 (.t 103), none, 2048⟩,
 ⟨(some 105), .faddr (.t 2) 3, none, 0⟩,
 ⟨(some 106), .load false 1 (.t 105), none, 8192⟩,
 ⟨(some 107), .build [.pv (.int .u8 (0)), .pv (.int .u8 (0)), .pv (.int .u8 (0)), .pv (.int .i32 (0)), .pv (.str [])] [(0, 1, .t 97), (1, 1, .t 102), (2, 1, .t 104), (3, 1, .t 106)], none, 32767⟩,
 ⟨(some 11), .alloc [.pv (.int .u8 (0)), .pv (.int .u8 (0)), .pv (.int .u8 (0)), .pv (.int .i32 (0)), .pv (.str [])], none, 0⟩,
 ⟨none, .store 5 (.t 11) (.t 107), none, 131071⟩] false)
 (.seq (.reg [⟨(some 108), .faddr (.t 9) 3, none, 0⟩,
 ⟨(some 109), .load false 1 (.t 108), none, 1⟩,
 ⟨(some 110), .mv (.t 10), none, 0⟩,
 ⟨(some 111), .paddr 8 1 (.g 0) (.t 110), none, 4⟩,
 ⟨(some 112), .load false 1 (.t 111), none, 12⟩,
 ⟨(some 113), .call (.f n_ref11_name) [.t 112], none, 28⟩,
 ⟨(some 114), .bsl 7 1 [.pv (.int .i64 (0)), .pv (.bool false), .pv (.int .i64 (0)), .pv (.str []), .pv (.int .i64 (0)), .pv (.int .i64 (0)), .pv (.int .i64 (0))] [(0, .t 113)], none, 60⟩,
 ⟨(some 115), .append 7 64 (.t 109) (.t 114), none, 127⟩,
 ⟨(some 116), .faddr (.t 9) 3, none, 255⟩,
 ⟨none, .store 1 (.t 116) (.t 115), none, 511⟩] true)
 (.reg [⟨(some 117), .faddr (.t 9) 4, none, 0⟩,
 ⟨(some 118), .load false 1 (.t 117), none, 1⟩,
 ⟨(some 119), .load true 5 (.t 11), none, 0⟩,
 ⟨(some 120), .mv (.t 1), none, 0⟩,
 ⟨(some 121), .call (.f n_ref11_Word_Obj) [.t 119, .t 120], none, 12⟩,
 ⟨(some 122), .bsl 7 1 [.pv (.int .i64 (0)), .pv (.bool false), .pv (.int .i64 (0)), .pv (.str []), .pv (.int .i64 (0)), .pv (.int .i64 (0)), .pv (.int .i64 (0))] [(0, .t 121)], none, 28⟩,
 ⟨(some 123), .append 7 64 (.t 118) (.t 122), none, 63⟩,
 ⟨(some 124), .faddr (.t 9) 4, none, 127⟩,
 ⟨none, .store 1 (.t 124) (.t 123), none, 255⟩] true))))
 (.reg [⟨(some 90), .mv (.t 10), none, 0⟩,
 ⟨(some 91), .bin .add (.t 90) (.c (.pv (.int .i64 (1)))), none, 1⟩,
 ⟨(some 10), .mv (.t 91), none, 3⟩] false))))))
 (.seq (.reg [⟨(some 125), .load true 7 (.t 9), none, 0⟩,
 ⟨none, .store 7 (.t 4) (.t 125), none, 1⟩] false)
 (.ret))))
 (.skip)))))))))
 (.seq (.reg [⟨(some 126), .mv (.t 5), none, 0⟩,
 ⟨(some 127), .faddr (.t 2) 1, none, 0⟩,
 ⟨(some 128), .load false 1 (.t 127), none, 2⟩,
 ⟨(some 129), .conv .i64 (.t 128), none, 6⟩,
 ⟨(some 130), .mv (.t 5), none, 0⟩,
 ⟨(some 131), .strlen (.t 130), none, 16⟩,
 ⟨(some 132), .bin .add (.t 131) (.c (.pv (.int .i64 (1)))), none, 48⟩,
 ⟨(some 133), .bin .rem (.t 129) (.t 132), none, 126⟩,
 ⟨(some 134), .faddr (.t 2) 2, none, 0⟩,
 ⟨(some 135), .load false 1 (.t 134), none, 256⟩,
 ⟨(some 136), .bin .rem (.t 135) (.c (.pv (.int .u8 (2)))), none, 768⟩,
 ⟨(some 137), .conv .i64 (.t 136), none, 1792⟩,
 ⟨(some 138), .build [.pv (.int .i64 (0)), .pv (.str []), .emp 7, .emp 7, .emp 7, .pv (.int .i64 (0)), .pv (.int .i64 (0))] [(0, 1, .c (.pv (.int .i64 (4)))), (1, 1, .t 126), (6, 1, .t 133), (5, 1, .t 137)], none, 4095⟩,
 ⟨none, .store 7 (.t 4) (.t 138), none, 8191⟩] true)
 (.ret))))⟩
def c_heap_PutBytes : RFn := ⟨4, 47, [.tmp 8, .tmp 9],
 .seq (.reg [⟨(some 5), .box 7 (.t 1), none, 0⟩,
 ⟨(some 8), .mv (.c (.emp 7)), none, 0⟩,
 ⟨(some 9), .mv (.c (.pv (.int .i64 (0)))), none, 2⟩] false)
 (.seq (.reg [⟨(some 14), .mv (.t 0), none, 0⟩,
 ⟨(some 15), .load true 7 (.t 5), none, 0⟩,
 ⟨(some 16), .bsl 1 1 [.pv (.int .i64 (0))] [(0, .c (.pv (.int .i64 (6))))], none, 0⟩,
 ⟨(some 17), .call (.f n_heap_viewOf) [.t 14, .t 15, .t 16], none, 7⟩,
 ⟨(some 13), .mv (.t 17), none, 15⟩,
 ⟨(some 18), .extract (.t 13) 0, none, 31⟩,
 ⟨(some 19), .extract (.t 13) 1, none, 31⟩,
 ⟨(some 10), .alloc [.emp 7, .pv (.int .i64 (0)), .pv (.bool false), .pv (.int .i64 (0)), .pv (.str []), .pv (.int .i64 (0)), .pv (.int .i64 (0)), .pv (.int .i64 (0))], none, 0⟩,
 ⟨none, .store 8 (.t 10) (.t 18), none, 191⟩,
 ⟨(some 11), .mv (.t 19), none, 511⟩] false)
 (.seq (.seq (.reg [⟨(some 20), .mv (.t 11), none, 0⟩,
 ⟨(some 21), .bin .eql (.t 20) (.c (.pv (.int .i64 (0)))), none, 1⟩] false)
 (.cond (.t 21)
 (.reg [⟨(some 22), .load true 8 (.t 10), none, 0⟩,
 ⟨(some 23), .mv (.t 2), none, 0⟩,
 ⟨(some 24), .mv (.t 3), none, 0⟩,
 ⟨(some 25), .strlen (.t 24), none, 4⟩,
 ⟨(some 26), .call (.f n_heap_view_room) [.t 22, .t 23, .t 25], none, 15⟩,
 ⟨(some 11), .mv (.t 26), none, 31⟩] false)
 (.skip)))
 (.seq (.seq (.reg [⟨(some 27), .mv (.t 11), none, 0⟩,
 ⟨(some 28), .bin .neq (.t 27) (.c (.pv (.int .i64 (0)))), none, 1⟩] false)
 (.cond (.t 28)
 (.seq (.reg [⟨(some 29), .mv (.t 11), none, 0⟩,
 ⟨(some 8), .mv (.c (.emp 7)), none, 0⟩,
 ⟨(some 9), .mv (.t 29), none, 3⟩] false)
 (.ret))
 (.skip)))
 (.seq (.reg [⟨(some 30), .load true 8 (.t 10), none, 0⟩,
 ⟨(some 31), .call (.f n_heap_view_cell) [.t 30], none, 1⟩,
 ⟨(some 12), .alloc [.pv (.int .i64 (0)), .pv (.str []), .emp 7, .emp 7, .emp 7, .pv (.int .i64 (0)), .pv (.int .i64 (0))], none, 0⟩,
 ⟨none, .store 7 (.t 12) (.t 31), none, 7⟩] false)
 (.seq (.reg [⟨(some 32), .faddr (.t 12) 1, none, 0⟩,
 ⟨(some 33), .load false 1 (.t 32), none, 1⟩,
 ⟨(some 34), .s2b (.t 33), none, 3⟩,
 ⟨(some 35), .faddr (.t 5) 5, none, 0⟩,
 ⟨(some 36), .load false 1 (.t 35), none, 8⟩,
 ⟨(some 37), .mv (.t 2), none, 0⟩,
 ⟨(some 38), .bin .add (.t 36) (.t 37), none, 56⟩,
 ⟨(some 39), .mv (.t 3), none, 0⟩,
 ⟨(some 40), .s2b (.t 39), none, 128⟩,
 ⟨(some 41), .call (.f n_heap_replaced_byte) [.t 34, .t 38, .t 40], none, 511⟩,
 ⟨(some 42), .b2s (.t 41), none, 1023⟩,
 ⟨(some 43), .faddr (.t 12) 1, none, 2047⟩,
 ⟨none, .store 1 (.t 43) (.t 42), none, 4095⟩] false)
 (.seq (.reg [⟨(some 44), .load true 8 (.t 10), none, 0⟩,
 ⟨(some 45), .load true 7 (.t 12), none, 0⟩,
 ⟨(some 46), .call (.f n_heap_view_with) [.t 44, .t 45], none, 3⟩,
 ⟨(some 8), .mv (.t 46), none, 7⟩,
 ⟨(some 9), .mv (.c (.pv (.int .i64 (0)))), none, 15⟩] false)
 (.ret)))))))⟩
def c_heap_Interval : RFn := ⟨3, 55, [.cell 6 true 7, .tmp 7],
 .seq (.reg [⟨(some 3), .box 7 (.t 0), none, 0⟩,
 ⟨(some 6), .alloc [.pv (.int .i64 (0)), .pv (.bool false), .pv (.int .i64 (0)), .pv (.str []), .pv (.int .i64 (0)), .pv (.int .i64 (0)), .pv (.int .i64 (0))], none, 0⟩,
 ⟨(some 7), .mv (.c (.pv (.int .i64 (0)))), none, 0⟩] false)
 (.seq (.seq (.reg [⟨(some 8), .load true 7 (.t 3), none, 0⟩,
 ⟨(some 9), .call (.f n_object_Check) [.t 8], none, 1⟩,
 ⟨(some 10), .bin .neq (.t 9) (.c (.pv (.int .i64 (0)))), none, 3⟩] false)
 (.cond (.t 10)
 (.seq (.reg [⟨(some 11), .build [.pv (.int .i64 (0)), .pv (.bool false), .pv (.int .i64 (0)), .pv (.str []), .pv (.int .i64 (0)), .pv (.int .i64 (0)), .pv (.int .i64 (0))] [], none, 0⟩,
 ⟨none, .store 7 (.t 6) (.t 11), none, 1⟩,
 ⟨(some 7), .mv (.c (.pv (.int .i64 (2)))), none, 3⟩] false)
 (.ret))
 (.skip)))
 (.seq (.seq (.reg [⟨(some 12), .faddr (.t 3) 0, none, 0⟩,
 ⟨(some 13), .load false 1 (.t 12), none, 1⟩,
 ⟨(some 14), .bin .neq (.t 13) (.c (.pv (.int .i64 (6)))), none, 3⟩,
 ⟨(some 15), .mv (.t 14), none, 7⟩,
 ⟨(some 16), .faddr (.t 3) 0, (some (15, true)), 15⟩,
 ⟨(some 17), .load false 1 (.t 16), (some (15, true)), 31⟩,
 ⟨(some 18), .bin .neq (.t 17) (.c (.pv (.int .i64 (7)))), (some (15, true)), 63⟩,
 ⟨(some 19), .pick (.t 15) (.t 18) (.c (.pv (.bool false))), none, 127⟩,
 ⟨(some 20), .mv (.t 19), none, 255⟩,
 ⟨(some 21), .faddr (.t 3) 0, (some (20, true)), 511⟩,
 ⟨(some 22), .load false 1 (.t 21), (some (20, true)), 1023⟩,
 ⟨(some 23), .bin .neq (.t 22) (.c (.pv (.int .i64 (8)))), (some (20, true)), 2047⟩,
 ⟨(some 24), .pick (.t 20) (.t 23) (.c (.pv (.bool false))), none, 4095⟩] false)
 (.cond (.t 24)
 (.seq (.reg [⟨(some 25), .build [.pv (.int .i64 (0)), .pv (.bool false), .pv (.int .i64 (0)), .pv (.str []), .pv (.int .i64 (0)), .pv (.int .i64 (0)), .pv (.int .i64 (0))] [], none, 0⟩,
 ⟨none, .store 7 (.t 6) (.t 25), none, 1⟩,
 ⟨(some 7), .mv (.c (.pv (.int .i64 (22)))), none, 3⟩] false)
 (.ret))
 (.skip)))
 (.seq (.seq (.reg [⟨(some 26), .mv (.t 1), none, 0⟩,
 ⟨(some 27), .bin .lss (.t 26) (.c (.pv (.int .i64 (0)))), none, 1⟩,
 ⟨(some 28), .mv (.t 27), none, 3⟩,
 ⟨(some 29), .mv (.t 2), (some (28, false)), 7⟩,
 ⟨(some 30), .bin .lss (.t 29) (.c (.pv (.int .i64 (0)))), (some (28, false)), 15⟩,
 ⟨(some 31), .pick (.t 28) (.c (.pv (.bool true))) (.t 30), none, 31⟩,
 ⟨(some 32), .mv (.t 31), none, 63⟩,
 ⟨(some 33), .mv (.t 1), (some (32, false)), 127⟩,
 ⟨(some 34), .faddr (.t 3) 6, (some (32, false)), 127⟩,
 ⟨(some 35), .load false 1 (.t 34), (some (32, false)), 383⟩,
 ⟨(some 36), .bin .gtr (.t 33) (.t 35), (some (32, false)), 1023⟩,
 ⟨(some 37), .pick (.t 32) (.c (.pv (.bool true))) (.t 36), none, 2047⟩,
 ⟨(some 38), .mv (.t 37), none, 4095⟩,
 ⟨(some 39), .mv (.t 2), (some (38, false)), 8191⟩,
 ⟨(some 40), .faddr (.t 3) 6, (some (38, false)), 8191⟩,
 ⟨(some 41), .load false 1 (.t 40), (some (38, false)), 24575⟩,
 ⟨(some 42), .mv (.t 1), (some (38, false)), 8191⟩,
 ⟨(some 43), .bin .sub (.t 41) (.t 42), (some (38, false)), 122879⟩,
 ⟨(some 44), .bin .gtr (.t 39) (.t 43), (some (38, false)), 262143⟩,
 ⟨(some 45), .pick (.t 38) (.c (.pv (.bool true))) (.t 44), none, 524287⟩] false)
 (.cond (.t 45)
 (.seq (.reg [⟨(some 46), .build [.pv (.int .i64 (0)), .pv (.bool false), .pv (.int .i64 (0)), .pv (.str []), .pv (.int .i64 (0)), .pv (.int .i64 (0)), .pv (.int .i64 (0))] [], none, 0⟩,
 ⟨none, .store 7 (.t 6) (.t 46), none, 1⟩,
 ⟨(some 7), .mv (.c (.pv (.int .i64 (23)))), none, 3⟩] false)
 (.ret))
 (.skip)))
 (.seq (.reg [⟨(some 47), .faddr (.t 3) 5, none, 0⟩,
 ⟨(some 48), .load false 1 (.t 47), none, 1⟩,
 ⟨(some 49), .mv (.t 1), none, 0⟩,
 ⟨(some 50), .bin .add (.t 48) (.t 49), none, 7⟩,
 ⟨(some 51), .mv (.t 2), none, 0⟩,
 ⟨(some 52), .faddr (.t 3) 5, none, 15⟩,
 ⟨none, .store 1 (.t 52) (.t 50), none, 47⟩,
 ⟨(some 53), .faddr (.t 3) 6, none, 127⟩,
 ⟨none, .store 1 (.t 53) (.t 51), none, 255⟩] false)
 (.seq (.reg [⟨(some 54), .load true 7 (.t 3), none, 0⟩,
 ⟨none, .store 7 (.t 6) (.t 54), none, 1⟩,
 ⟨(some 7), .mv (.c (.pv (.int .i64 (0)))), none, 3⟩] false)
 (.ret))))))⟩
def c_heap_Bytes : RFn := ⟨2, 29, [.tmp 4, .tmp 5],
 .seq (.reg [⟨(some 3), .box 7 (.t 1), none, 0⟩,
 ⟨(some 4), .mv (.c (.pv (.str []))), none, 0⟩,
 ⟨(some 5), .mv (.c (.pv (.int .i64 (0)))), none, 2⟩] false)
 (.seq (.reg [⟨(some 9), .mv (.t 0), none, 0⟩,
 ⟨(some 10), .load true 7 (.t 3), none, 0⟩,
 ⟨(some 11), .bsl 1 1 [.pv (.int .i64 (0))] [(0, .c (.pv (.int .i64 (6))))], none, 0⟩,
 ⟨(some 12), .call (.f n_heap_viewOf) [.t 9, .t 10, .t 11], none, 7⟩,
 ⟨(some 8), .mv (.t 12), none, 15⟩,
 ⟨(some 13), .extract (.t 8) 0, none, 31⟩,
 ⟨(some 14), .extract (.t 8) 1, none, 31⟩,
 ⟨(some 6), .alloc [.emp 7, .pv (.int .i64 (0)), .pv (.bool false), .pv (.int .i64 (0)), .pv (.str []), .pv (.int .i64 (0)), .pv (.int .i64 (0)), .pv (.int .i64 (0))], none, 0⟩,
 ⟨none, .store 8 (.t 6) (.t 13), none, 191⟩,
 ⟨(some 7), .mv (.t 14), none, 511⟩] false)
 (.seq (.seq (.reg [⟨(some 15), .mv (.t 7), none, 0⟩,
 ⟨(some 16), .bin .neq (.t 15) (.c (.pv (.int .i64 (0)))), none, 1⟩] false)
 (.cond (.t 16)
 (.seq (.reg [⟨(some 17), .mv (.t 7), none, 0⟩,
 ⟨(some 4), .mv (.c (.pv (.str []))), none, 0⟩,
 ⟨(some 5), .mv (.t 17), none, 3⟩] false)
 (.ret))
 (.skip)))
 (.seq (.reg [⟨(some 18), .load true 8 (.t 6), none, 0⟩,
 ⟨(some 19), .call (.f n_heap_view_cell) [.t 18], none, 1⟩,
 ⟨(some 20), .field false 1 1 (.t 19), none, 3⟩,
 ⟨(some 21), .faddr (.t 3) 5, none, 0⟩,
 ⟨(some 22), .load false 1 (.t 21), none, 8⟩,
 ⟨(some 23), .faddr (.t 3) 5, none, 0⟩,
 ⟨(some 24), .load false 1 (.t 23), none, 32⟩,
 ⟨(some 25), .faddr (.t 3) 6, none, 0⟩,
 ⟨(some 26), .load false 1 (.t 25), none, 128⟩,
 ⟨(some 27), .bin .add (.t 24) (.t 26), none, 480⟩,
 ⟨(some 28), .sslice (.t 20) (some (.t 22)) (some (.t 27)), none, 1023⟩,
 ⟨(some 4), .mv (.t 28), none, 2047⟩,
 ⟨(some 5), .mv (.c (.pv (.int .i64 (0)))), none, 4095⟩] true)
 (.ret))))⟩
def c_heap_PutItems : RFn := ⟨4, 51, [.tmp 8, .tmp 9],
 .seq (.reg [⟨(some 5), .box 7 (.t 1), none, 0⟩,
 ⟨(some 8), .mv (.c (.emp 7)), none, 0⟩,
 ⟨(some 9), .mv (.c (.pv (.int .i64 (0)))), none, 2⟩] false)
 (.seq (.reg [⟨(some 14), .mv (.t 0), none, 0⟩,
 ⟨(some 15), .load true 7 (.t 5), none, 0⟩,
 ⟨(some 16), .bsl 1 2 [.pv (.int .i64 (0))] [(0, .c (.pv (.int .i64 (7)))), (1, .c (.pv (.int .i64 (8))))], none, 0⟩,
 ⟨(some 17), .call (.f n_heap_viewOf) [.t 14, .t 15, .t 16], none, 7⟩,
 ⟨(some 13), .mv (.t 17), none, 15⟩,
 ⟨(some 18), .extract (.t 13) 0, none, 31⟩,
 ⟨(some 19), .extract (.t 13) 1, none, 31⟩,
 ⟨(some 10), .alloc [.emp 7, .pv (.int .i64 (0)), .pv (.bool false), .pv (.int .i64 (0)), .pv (.str []), .pv (.int .i64 (0)), .pv (.int .i64 (0)), .pv (.int .i64 (0))], none, 0⟩,
 ⟨none, .store 8 (.t 10) (.t 18), none, 191⟩,
 ⟨(some 11), .mv (.t 19), none, 511⟩] false)
 (.seq (.seq (.reg [⟨(some 20), .mv (.t 11), none, 0⟩,
 ⟨(some 21), .bin .eql (.t 20) (.c (.pv (.int .i64 (0)))), none, 1⟩,
 ⟨(some 22), .mv (.t 21), none, 3⟩,
 ⟨(some 23), .faddr (.t 5) 0, (some (22, true)), 7⟩,
 ⟨(some 24), .load false 1 (.t 23), (some (22, true)), 15⟩,
 ⟨(some 25), .bin .eql (.t 24) (.c (.pv (.int .i64 (8)))), (some (22, true)), 31⟩,
 ⟨(some 26), .pick (.t 22) (.t 25) (.c (.pv (.bool false))), none, 63⟩] false)
 (.cond (.t 26)
 (.reg [⟨(some 11), .mv (.c (.pv (.int .i64 (31)))), none, 0⟩] false)
 (.skip)))
 (.seq (.seq (.reg [⟨(some 27), .mv (.t 11), none, 0⟩,
 ⟨(some 28), .bin .eql (.t 27) (.c (.pv (.int .i64 (0)))), none, 1⟩] false)
 (.cond (.t 28)
 (.reg [⟨(some 29), .load true 8 (.t 10), none, 0⟩,
 ⟨(some 30), .mv (.t 2), none, 0⟩,
 ⟨(some 31), .mv (.t 3), none, 0⟩,
 ⟨(some 32), .slen (.t 31), none, 4⟩,
 ⟨(some 33), .call (.f n_heap_view_room) [.t 29, .t 30, .t 32], none, 15⟩,
 ⟨(some 11), .mv (.t 33), none, 31⟩] false)
 (.skip)))
 (.seq (.seq (.reg [⟨(some 34), .mv (.t 11), none, 0⟩,
 ⟨(some 35), .bin .neq (.t 34) (.c (.pv (.int .i64 (0)))), none, 1⟩] false)
 (.cond (.t 35)
 (.seq (.reg [⟨(some 36), .mv (.t 11), none, 0⟩,
 ⟨(some 8), .mv (.c (.emp 7)), none, 0⟩,
 ⟨(some 9), .mv (.t 36), none, 3⟩] false)
 (.ret))
 (.skip)))
 (.seq (.reg [⟨(some 37), .load true 8 (.t 10), none, 0⟩,
 ⟨(some 38), .call (.f n_heap_view_cell) [.t 37], none, 1⟩,
 ⟨(some 12), .alloc [.pv (.int .i64 (0)), .pv (.str []), .emp 7, .emp 7, .emp 7, .pv (.int .i64 (0)), .pv (.int .i64 (0))], none, 0⟩,
 ⟨none, .store 7 (.t 12) (.t 38), none, 7⟩] false)
 (.seq (.reg [⟨(some 39), .faddr (.t 12) 2, none, 0⟩,
 ⟨(some 40), .load false 1 (.t 39), none, 1⟩,
 ⟨(some 41), .faddr (.t 5) 5, none, 0⟩,
 ⟨(some 42), .load false 1 (.t 41), none, 4⟩,
 ⟨(some 43), .mv (.t 2), none, 0⟩,
 ⟨(some 44), .bin .add (.t 42) (.t 43), none, 28⟩,
 ⟨(some 45), .mv (.t 3), none, 0⟩,
 ⟨(some 46), .call (.f n_heap_replaced_Obj) [.t 40, .t 44, .t 45], none, 127⟩,
 ⟨(some 47), .faddr (.t 12) 2, none, 255⟩,
 ⟨none, .store 1 (.t 47) (.t 46), none, 511⟩] false)
 (.seq (.reg [⟨(some 48), .load true 8 (.t 10), none, 0⟩,
 ⟨(some 49), .load true 7 (.t 12), none, 0⟩,
 ⟨(some 50), .call (.f n_heap_view_with) [.t 48, .t 49], none, 3⟩,
 ⟨(some 8), .mv (.t 50), none, 7⟩,
 ⟨(some 9), .mv (.c (.pv (.int .i64 (0)))), none, 15⟩] false)
 (.ret))))))))⟩
def c_heap_Items : RFn := ⟨2, 34, [.tmp 4, .tmp 5],
 .seq (.reg [⟨(some 3), .box 7 (.t 1), none, 0⟩,
 ⟨(some 4), .mv (.c (.emp 7)), none, 0⟩,
 ⟨(some 5), .mv (.c (.pv (.int .i64 (0)))), none, 2⟩] false)
 (.seq (.reg [⟨(some 9), .mv (.t 0), none, 0⟩,
 ⟨(some 10), .load true 7 (.t 3), none, 0⟩,
 ⟨(some 11), .bsl 1 2 [.pv (.int .i64 (0))] [(0, .c (.pv (.int .i64 (7)))), (1, .c (.pv (.int .i64 (8))))], none, 0⟩,
 ⟨(some 12), .call (.f n_heap_viewOf) [.t 9, .t 10, .t 11], none, 7⟩,
 ⟨(some 8), .mv (.t 12), none, 15⟩,
 ⟨(some 13), .extract (.t 8) 0, none, 31⟩,
 ⟨(some 14), .extract (.t 8) 1, none, 31⟩,
 ⟨(some 6), .alloc [.emp 7, .pv (.int .i64 (0)), .pv (.bool false), .pv (.int .i64 (0)), .pv (.str []), .pv (.int .i64 (0)), .pv (.int .i64 (0)), .pv (.int .i64 (0))], none, 0⟩,
 ⟨none, .store 8 (.t 6) (.t 13), none, 191⟩,
 ⟨(some 7), .mv (.t 14), none, 511⟩] false)
 (.seq (.seq (.reg [⟨(some 15), .mv (.t 7), none, 0⟩,
 ⟨(some 16), .bin .neq (.t 15) (.c (.pv (.int .i64 (0)))), none, 1⟩] false)
 (.cond (.t 16)
 (.seq (.reg [⟨(some 17), .mv (.t 7), none, 0⟩,
 ⟨(some 4), .mv (.c (.emp 7)), none, 0⟩,
 ⟨(some 5), .mv (.t 17), none, 3⟩] false)
 (.ret))
 (.skip)))
 (.seq (.reg [⟨(some 18), .load true 8 (.t 6), none, 0⟩,
 ⟨(some 19), .call (.f n_heap_view_cell) [.t 18], none, 1⟩,
 ⟨(some 20), .field false 2 1 (.t 19), none, 3⟩,
 ⟨(some 21), .faddr (.t 3) 5, none, 0⟩,
 ⟨(some 22), .load false 1 (.t 21), none, 8⟩,
 ⟨(some 23), .faddr (.t 3) 5, none, 0⟩,
 ⟨(some 24), .load false 1 (.t 23), none, 32⟩,
 ⟨(some 25), .faddr (.t 3) 6, none, 0⟩,
 ⟨(some 26), .load false 1 (.t 25), none, 128⟩,
 ⟨(some 27), .bin .add (.t 24) (.t 26), none, 480⟩,
 ⟨(some 28), .faddr (.t 3) 5, none, 0⟩,
 ⟨(some 29), .load false 1 (.t 28), none, 1024⟩,
 ⟨(some 30), .faddr (.t 3) 6, none, 0⟩,
 ⟨(some 31), .load false 1 (.t 30), none, 4096⟩,
 ⟨(some 32), .bin .add (.t 29) (.t 31), none, 15360⟩,
 ⟨(some 33), .slice 7 (.t 20) (some (.t 22)) (some (.t 27)) (some (.t 32)), none, 32767⟩,
 ⟨(some 4), .mv (.t 33), none, 65535⟩,
 ⟨(some 5), .mv (.c (.pv (.int .i64 (0)))), none, 131071⟩] true)
 (.ret))))⟩
def c_heap_Key : RFn := ⟨2, 34, [.cell 4 true 7, .tmp 5],
 .seq (.reg [⟨(some 3), .box 7 (.t 1), none, 0⟩,
 ⟨(some 4), .alloc [.pv (.int .i64 (0)), .pv (.bool false), .pv (.int .i64 (0)), .pv (.str []), .pv (.int .i64 (0)), .pv (.int .i64 (0)), .pv (.int .i64 (0))], none, 0⟩,
 ⟨(some 5), .mv (.c (.pv (.int .i64 (0)))), none, 0⟩] false)
 (.seq (.seq (.reg [⟨(some 8), .mv (.t 0), none, 0⟩,
 ⟨(some 9), .load true 7 (.t 3), none, 0⟩,
 ⟨(some 10), .call (.f n_heap_Fits) [.t 8, .t 9], none, 3⟩,
 ⟨(some 11), .not (.t 10), none, 7⟩] false)
 (.cond (.t 11)
 (.seq (.reg [⟨(some 12), .build [.pv (.int .i64 (0)), .pv (.bool false), .pv (.int .i64 (0)), .pv (.str []), .pv (.int .i64 (0)), .pv (.int .i64 (0)), .pv (.int .i64 (0))] [], none, 0⟩,
 ⟨none, .store 7 (.t 4) (.t 12), none, 1⟩,
 ⟨(some 5), .mv (.c (.pv (.int .i64 (2)))), none, 3⟩] false)
 (.ret))
 (.skip)))
 (.seq (.seq (.reg [⟨(some 13), .faddr (.t 3) 0, none, 0⟩,
 ⟨(some 14), .load false 1 (.t 13), none, 1⟩,
 ⟨(some 15), .bin .neq (.t 14) (.c (.pv (.int .i64 (6)))), none, 3⟩] false)
 (.cond (.t 15)
 (.seq (.reg [⟨(some 16), .load true 7 (.t 3), none, 0⟩,
 ⟨(some 17), .call (.f n_object_Key) [.t 16], none, 1⟩,
 ⟨(some 18), .extract (.t 17) 0, none, 3⟩,
 ⟨(some 19), .extract (.t 17) 1, none, 3⟩,
 ⟨none, .store 7 (.t 4) (.t 18), none, 15⟩,
 ⟨(some 5), .mv (.t 19), none, 31⟩] false)
 (.ret))
 (.skip)))
 (.seq (.reg [⟨(some 21), .mv (.t 0), none, 0⟩,
 ⟨(some 22), .load true 7 (.t 3), none, 0⟩,
 ⟨(some 23), .call (.f n_heap_Bytes) [.t 21, .t 22], none, 3⟩,
 ⟨(some 20), .mv (.t 23), none, 7⟩,
 ⟨(some 24), .extract (.t 20) 0, none, 15⟩,
 ⟨(some 25), .extract (.t 20) 1, none, 15⟩,
 ⟨(some 6), .mv (.t 24), none, 31⟩,
 ⟨(some 7), .mv (.t 25), none, 127⟩] false)
 (.seq (.seq (.reg [⟨(some 26), .mv (.t 6), none, 0⟩,
 ⟨(some 27), .strlen (.t 26), none, 1⟩,
 ⟨(some 28), .bin .gtr (.t 27) (.c (.pv (.int .i64 (100)))), none, 3⟩] false)
 (.cond (.t 28)
 (.seq (.reg [⟨(some 29), .build [.pv (.int .i64 (0)), .pv (.bool false), .pv (.int .i64 (0)), .pv (.str []), .pv (.int .i64 (0)), .pv (.int .i64 (0)), .pv (.int .i64 (0))] [], none, 0⟩,
 ⟨none, .store 7 (.t 4) (.t 29), none, 1⟩,
 ⟨(some 5), .mv (.c (.pv (.int .i64 (23)))), none, 3⟩] false)
 (.ret))
 (.skip)))
 (.seq (.reg [⟨(some 30), .mv (.t 6), none, 0⟩,
 ⟨(some 31), .call (.f n_object_Name) [.t 30, .c (.pv (.bool false))], none, 1⟩,
 ⟨(some 32), .extract (.t 31) 0, none, 3⟩,
 ⟨(some 33), .extract (.t 31) 1, none, 3⟩,
 ⟨none, .store 7 (.t 4) (.t 32), none, 15⟩,
 ⟨(some 5), .mv (.t 33), none, 31⟩] false)
 (.ret))))))⟩
def c_heap_Find : RFn := ⟨3, 45, [.cell 6 true 7, .tmp 7, .tmp 8],
 .seq (.reg [⟨(some 4), .box 7 (.t 1), none, 0⟩,
 ⟨(some 5), .box 7 (.t 2), none, 0⟩,
 ⟨(some 6), .alloc [.pv (.int .i64 (0)), .pv (.bool false), .pv (.int .i64 (0)), .pv (.str []), .pv (.int .i64 (0)), .pv (.int .i64 (0)), .pv (.int .i64 (0))], none, 0⟩,
 ⟨(some 7), .mv (.c (.pv (.bool false))), none, 0⟩,
 ⟨(some 8), .mv (.c (.pv (.int .i64 (0)))), none, 8⟩] false)
 (.seq (.reg [⟨(some 14), .mv (.t 0), none, 0⟩,
 ⟨(some 15), .load true 7 (.t 4), none, 0⟩,
 ⟨(some 16), .bsl 1 1 [.pv (.int .i64 (0))] [(0, .c (.pv (.int .i64 (9))))], none, 0⟩,
 ⟨(some 17), .call (.f n_heap_viewOf) [.t 14, .t 15, .t 16], none, 7⟩,
 ⟨(some 13), .mv (.t 17), none, 15⟩,
 ⟨(some 18), .extract (.t 13) 0, none, 31⟩,
 ⟨(some 19), .extract (.t 13) 1, none, 31⟩,
 ⟨(some 9), .alloc [.emp 7, .pv (.int .i64 (0)), .pv (.bool false), .pv (.int .i64 (0)), .pv (.str []), .pv (.int .i64 (0)), .pv (.int .i64 (0)), .pv (.int .i64 (0))], none, 0⟩,
 ⟨none, .store 8 (.t 9) (.t 18), none, 191⟩,
 ⟨(some 10), .mv (.t 19), none, 511⟩] false)
 (.seq (.seq (.reg [⟨(some 20), .mv (.t 10), none, 0⟩,
 ⟨(some 21), .bin .neq (.t 20) (.c (.pv (.int .i64 (0)))), none, 1⟩] false)
 (.cond (.t 21)
 (.seq (.reg [⟨(some 22), .build [.pv (.int .i64 (0)), .pv (.bool false), .pv (.int .i64 (0)), .pv (.str []), .pv (.int .i64 (0)), .pv (.int .i64 (0)), .pv (.int .i64 (0))] [], none, 0⟩,
 ⟨(some 23), .mv (.t 10), none, 0⟩,
 ⟨none, .store 7 (.t 6) (.t 22), none, 1⟩,
 ⟨(some 7), .mv (.c (.pv (.bool false))), none, 5⟩,
 ⟨(some 8), .mv (.t 23), none, 15⟩] false)
 (.ret))
 (.skip)))
 (.seq (.reg [⟨(some 24), .load true 8 (.t 9), none, 0⟩,
 ⟨(some 25), .call (.f n_heap_view_cell) [.t 24], none, 1⟩,
 ⟨(some 11), .alloc [.pv (.int .i64 (0)), .pv (.str []), .emp 7, .emp 7, .emp 7, .pv (.int .i64 (0)), .pv (.int .i64 (0))], none, 0⟩,
 ⟨none, .store 7 (.t 11) (.t 25), none, 7⟩] false)
 (.seq (.reg [⟨(some 26), .faddr (.t 11) 3, none, 0⟩,
 ⟨(some 27), .load false 1 (.t 26), none, 1⟩,
 ⟨(some 28), .load true 7 (.t 5), none, 0⟩,
 ⟨(some 29), .call (.f n_slices_Index_Obj) [.t 27, .t 28], none, 7⟩,
 ⟨(some 12), .mv (.t 29), none, 15⟩] false)
 (.seq (.seq (.reg [⟨(some 30), .mv (.t 12), none, 0⟩,
 ⟨(some 31), .bin .lss (.t 30) (.c (.pv (.int .i64 (0)))), none, 1⟩,
 ⟨(some 32), .mv (.t 31), none, 3⟩,
 ⟨(some 33), .mv (.t 12), (some (32, false)), 7⟩,
 ⟨(some 34), .faddr (.t 11) 4, (some (32, false)), 7⟩,
 ⟨(some 35), .load false 1 (.t 34), (some (32, false)), 23⟩,
 ⟨(some 36), .slen (.t 35), (some (32, false)), 55⟩,
 ⟨(some 37), .bin .geq (.t 33) (.t 36), (some (32, false)), 127⟩,
 ⟨(some 38), .pick (.t 32) (.c (.pv (.bool true))) (.t 37), none, 255⟩] false)
 (.cond (.t 38)
 (.seq (.reg [⟨(some 39), .build [.pv (.int .i64 (0)), .pv (.bool false), .pv (.int .i64 (0)), .pv (.str []), .pv (.int .i64 (0)), .pv (.int .i64 (0)), .pv (.int .i64 (0))] [], none, 0⟩,
 ⟨none, .store 7 (.t 6) (.t 39), none, 1⟩,
 ⟨(some 7), .mv (.c (.pv (.bool false))), none, 3⟩,
 ⟨(some 8), .mv (.c (.pv (.int .i64 (0)))), none, 7⟩] false)
 (.ret))
 (.skip)))
 (.seq (.reg [⟨(some 40), .faddr (.t 11) 4, none, 0⟩,
 ⟨(some 41), .load false 1 (.t 40), none, 1⟩,
 ⟨(some 42), .mv (.t 12), none, 0⟩,
 ⟨(some 43), .iaddr 7 (.t 41) (.t 42), none, 7⟩,
 ⟨(some 44), .load true 7 (.t 43), none, 15⟩,
 ⟨none, .store 7 (.t 6) (.t 44), none, 31⟩,
 ⟨(some 7), .mv (.c (.pv (.bool true))), none, 63⟩,
 ⟨(some 8), .mv (.c (.pv (.int .i64 (0)))), none, 127⟩] false)
 (.ret)))))))⟩
def c_heap_Store : RFn := ⟨4, 84, [.tmp 8, .tmp 9],
 .seq (.reg [⟨(some 5), .box 7 (.t 1), none, 0⟩,
 ⟨(some 6), .box 7 (.t 2), none, 0⟩,
 ⟨(some 7), .box 7 (.t 3), none, 0⟩,
 ⟨(some 8), .mv (.c (.emp 7)), none, 0⟩,
 ⟨(some 9), .mv (.c (.pv (.int .i64 (0)))), none, 8⟩] false)
 (.seq (.reg [⟨(some 15), .mv (.t 0), none, 0⟩,
 ⟨(some 16), .load true 7 (.t 5), none, 0⟩,
 ⟨(some 17), .bsl 1 1 [.pv (.int .i64 (0))] [(0, .c (.pv (.int .i64 (9))))], none, 0⟩,
 ⟨(some 18), .call (.f n_heap_viewOf) [.t 15, .t 16, .t 17], none, 7⟩,
 ⟨(some 14), .mv (.t 18), none, 15⟩,
 ⟨(some 19), .extract (.t 14) 0, none, 31⟩,
 ⟨(some 20), .extract (.t 14) 1, none, 31⟩,
 ⟨(some 10), .alloc [.emp 7, .pv (.int .i64 (0)), .pv (.bool false), .pv (.int .i64 (0)), .pv (.str []), .pv (.int .i64 (0)), .pv (.int .i64 (0)), .pv (.int .i64 (0))], none, 0⟩,
 ⟨none, .store 8 (.t 10) (.t 19), none, 191⟩,
 ⟨(some 11), .mv (.t 20), none, 511⟩] false)
 (.seq (.seq (.reg [⟨(some 21), .mv (.t 11), none, 0⟩,
 ⟨(some 22), .bin .neq (.t 21) (.c (.pv (.int .i64 (0)))), none, 1⟩] false)
 (.cond (.t 22)
 (.seq (.reg [⟨(some 23), .mv (.t 11), none, 0⟩,
 ⟨(some 8), .mv (.c (.emp 7)), none, 0⟩,
 ⟨(some 9), .mv (.t 23), none, 3⟩] false)
 (.ret))
 (.skip)))
 (.seq (.reg [⟨(some 24), .load true 8 (.t 10), none, 0⟩,
 ⟨(some 25), .call (.f n_heap_view_cell) [.t 24], none, 1⟩,
 ⟨(some 12), .alloc [.pv (.int .i64 (0)), .pv (.str []), .emp 7, .emp 7, .emp 7, .pv (.int .i64 (0)), .pv (.int .i64 (0))], none, 0⟩,
 ⟨none, .store 7 (.t 12) (.t 25), none, 7⟩] false)
 (.seq (.seq (.reg [⟨(some 26), .faddr (.t 12) 3, none, 0⟩,
 ⟨(some 27), .load false 1 (.t 26), none, 1⟩,
 ⟨(some 28), .load true 7 (.t 6), none, 0⟩,
 ⟨(some 29), .call (.f n_slices_Index_Obj) [.t 27, .t 28], none, 7⟩,
 ⟨(some 13), .mv (.t 29), none, 15⟩] false)
 (.seq (.reg [⟨(some 30), .mv (.t 13), none, 0⟩,
 ⟨(some 31), .bin .geq (.t 30) (.c (.pv (.int .i64 (0)))), none, 1⟩,
 ⟨(some 32), .mv (.t 31), none, 3⟩,
 ⟨(some 33), .mv (.t 13), (some (32, true)), 7⟩,
 ⟨(some 34), .faddr (.t 12) 4, (some (32, true)), 7⟩,
 ⟨(some 35), .load false 1 (.t 34), (some (32, true)), 23⟩,
 ⟨(some 36), .slen (.t 35), (some (32, true)), 55⟩,
 ⟨(some 37), .bin .lss (.t 33) (.t 36), (some (32, true)), 127⟩,
 ⟨(some 38), .pick (.t 32) (.t 37) (.c (.pv (.bool false))), none, 255⟩] false)
 (.cond (.t 38)
 (.seq (.reg [⟨(some 39), .faddr (.t 12) 4, none, 0⟩,
 ⟨(some 40), .load false 1 (.t 39), none, 1⟩,
 ⟨(some 41), .mv (.t 13), none, 0⟩,
 ⟨(some 42), .load true 7 (.t 7), none, 0⟩,
 ⟨(some 43), .bsl 7 1 [.pv (.int .i64 (0)), .pv (.bool false), .pv (.int .i64 (0)), .pv (.str []), .pv (.int .i64 (0)), .pv (.int .i64 (0)), .pv (.int .i64 (0))] [(0, .t 42)], none, 8⟩,
 ⟨(some 44), .call (.f n_heap_replaced_Obj) [.t 40, .t 41, .t 43], none, 31⟩,
 ⟨(some 45), .faddr (.t 12) 4, none, 63⟩,
 ⟨none, .store 1 (.t 45) (.t 44), none, 127⟩] false)
 (.seq (.reg [⟨(some 46), .load true 8 (.t 10), none, 0⟩,
 ⟨(some 47), .load true 7 (.t 12), none, 0⟩,
 ⟨(some 48), .call (.f n_heap_view_with) [.t 46, .t 47], none, 3⟩,
 ⟨(some 8), .mv (.t 48), none, 7⟩,
 ⟨(some 9), .mv (.c (.pv (.int .i64 (0)))), none, 15⟩] false)
 (.ret)))
 (.skip))))
 (.seq (.seq (.reg [⟨(some 49), .faddr (.t 12) 3, none, 0⟩,
 ⟨(some 50), .load false 1 (.t 49), none, 1⟩,
 ⟨(some 51), .slen (.t 50), none, 3⟩,
 ⟨(some 52), .faddr (.t 12) 5, none, 0⟩,
 ⟨(some 53), .load false 1 (.t 52), none, 8⟩,
 ⟨(some 54), .bin .geq (.t 51) (.t 53), none, 31⟩] false)
 (.cond (.t 54)
 (.seq (.reg [⟨(some 8), .mv (.c (.emp 7)), none, 0⟩,
 ⟨(some 9), .mv (.c (.pv (.int .i64 (30)))), none, 1⟩] false)
 (.ret))
 (.skip)))
 (.seq (.reg [⟨(some 55), .faddr (.t 12) 3, none, 0⟩,
 ⟨(some 56), .load false 1 (.t 55), none, 1⟩,
 ⟨(some 57), .faddr (.t 12) 3, none, 0⟩,
 ⟨(some 58), .load false 1 (.t 57), none, 4⟩,
 ⟨(some 59), .slen (.t 58), none, 12⟩,
 ⟨(some 60), .faddr (.t 12) 3, none, 0⟩,
 ⟨(some 61), .load false 1 (.t 60), none, 32⟩,
 ⟨(some 62), .slen (.t 61), none, 96⟩,
 ⟨(some 63), .slice 7 (.t 56) none (some (.t 59)) (some (.t 62)), none, 255⟩,
 ⟨(some 64), .load true 7 (.t 6), none, 0⟩,
 ⟨(some 65), .bsl 7 1 [.pv (.int .i64 (0)), .pv (.bool false), .pv (.int .i64 (0)), .pv (.str []), .pv (.int .i64 (0)), .pv (.int .i64 (0)), .pv (.int .i64 (0))] [(0, .t 64)], none, 512⟩,
 ⟨(some 66), .append 7 64 (.t 63) (.t 65), none, 2047⟩,
 ⟨(some 67), .faddr (.t 12) 3, none, 4095⟩,
 ⟨none, .store 1 (.t 67) (.t 66), none, 8191⟩] true)
 (.seq (.reg [⟨(some 68), .faddr (.t 12) 4, none, 0⟩,
 ⟨(some 69), .load false 1 (.t 68), none, 1⟩,
 ⟨(some 70), .faddr (.t 12) 4, none, 0⟩,
 ⟨(some 71), .load false 1 (.t 70), none, 4⟩,
 ⟨(some 72), .slen (.t 71), none, 12⟩,
 ⟨(some 73), .faddr (.t 12) 4, none, 0⟩,
 ⟨(some 74), .load false 1 (.t 73), none, 32⟩,
 ⟨(some 75), .slen (.t 74), none, 96⟩,
 ⟨(some 76), .slice 7 (.t 69) none (some (.t 72)) (some (.t 75)), none, 255⟩,
 ⟨(some 77), .load true 7 (.t 7), none, 0⟩,
 ⟨(some 78), .bsl 7 1 [.pv (.int .i64 (0)), .pv (.bool false), .pv (.int .i64 (0)), .pv (.str []), .pv (.int .i64 (0)), .pv (.int .i64 (0)), .pv (.int .i64 (0))] [(0, .t 77)], none, 512⟩,
 ⟨(some 79), .append 7 64 (.t 76) (.t 78), none, 2047⟩,
 ⟨(some 80), .faddr (.t 12) 4, none, 4095⟩,
 ⟨none, .store 1 (.t 80) (.t 79), none, 8191⟩] true)
 (.seq (.reg [⟨(some 81), .load true 8 (.t 10), none, 0⟩,
 ⟨(some 82), .load true 7 (.t 12), none, 0⟩,
 ⟨(some 83), .call (.f n_heap_view_with) [.t 81, .t 82], none, 3⟩,
 ⟨(some 8), .mv (.t 83), none, 7⟩,
 ⟨(some 9), .mv (.c (.pv (.int .i64 (0)))), none, 15⟩] false)
 (.ret)))))))))⟩
def c_ref11_Categories : RFn := ⟨0, 2, [.tmp 0],
 .seq (.reg [⟨(some 0), .mv (.c (.emp 1)), none, 0⟩] false)
 (.seq (.reg [⟨(some 1), .bsl 1 5 [.pv (.str [])] [(0, .c (.pv (.str [70, 111, 110, 116]))), (1, .c (.pv (.str [80, 97, 116, 116, 101, 114, 110]))), (2, .c (.pv (.str [69, 110, 99, 111, 100, 105, 110, 103]))), (3, .c (.pv (.str [70, 111, 114, 109]))), (4, .c (.pv (.str [71, 101, 110, 101, 114, 105, 99])))], none, 0⟩,
 ⟨(some 0), .mv (.t 1), none, 1⟩] false)
 (.ret))⟩
def c_ref11_part : RFn := ⟨4, 76, [.cell 8 true 7],
 .seq (.reg [⟨(some 7), .box 5 (.t 3), none, 0⟩,
 ⟨(some 8), .alloc [.pv (.int .i64 (0)), .pv (.bool false), .pv (.int .i64 (0)), .pv (.str []), .pv (.int .i64 (0)), .pv (.int .i64 (0)), .pv (.int .i64 (0))], none, 0⟩] false)
 (.seq (.reg [⟨(some 11), .mv (.t 0), none, 0⟩,
 ⟨(some 12), .mv (.t 2), none, 0⟩,
 ⟨(some 13), .faddr (.t 7) 1, none, 0⟩,
 ⟨(some 14), .load false 1 (.t 13), none, 4⟩,
 ⟨(some 15), .conv .i64 (.t 14), none, 12⟩,
 ⟨(some 16), .call (.f n_ref11_pick) [.t 11, .t 12, .t 15], none, 31⟩,
 ⟨(some 9), .mv (.t 16), none, 63⟩] false)
 (.seq (.seq (.reg [⟨(some 17), .mv (.t 9), none, 0⟩,
 ⟨(some 18), .bin .lss (.t 17) (.c (.pv (.int .i64 (0)))), none, 1⟩] false)
 (.cond (.t 18)
 (.seq (.reg [⟨(some 19), .faddr (.t 7) 1, none, 0⟩,
 ⟨(some 20), .load false 1 (.t 19), none, 1⟩,
 ⟨(some 21), .conv .i64 (.t 20), none, 3⟩,
 ⟨(some 22), .build [.pv (.int .i64 (0)), .pv (.bool false), .pv (.int .i64 (0)), .pv (.str []), .pv (.int .i64 (0)), .pv (.int .i64 (0)), .pv (.int .i64 (0))] [(0, 1, .c (.pv (.int .i64 (3)))), (2, 1, .t 21)], none, 7⟩,
 ⟨none, .store 7 (.t 8) (.t 22), none, 15⟩] false)
 (.ret))
 (.skip)))
 (.seq (.reg [⟨(some 23), .mv (.t 1), none, 0⟩,
 ⟨(some 24), .faddr (.t 7) 3, none, 0⟩,
 ⟨(some 25), .load false 1 (.t 24), none, 2⟩,
 ⟨(some 26), .bin .rem (.t 25) (.c (.pv (.int .i32 (5)))), none, 6⟩,
 ⟨(some 27), .bin .eql (.t 26) (.c (.pv (.int .i32 (3)))), none, 14⟩,
 ⟨(some 28), .mv (.t 9), none, 0⟩,
 ⟨(some 29), .build [.pv (.int .i64 (0)), .pv (.bool false), .pv (.int .i64 (0)), .pv (.str []), .pv (.int .i64 (0)), .pv (.int .i64 (0)), .pv (.int .i64 (0))] [(0, 1, .t 23), (1, 1, .t 27), (4, 1, .t 28)], none, 63⟩,
 ⟨(some 10), .alloc [.pv (.int .i64 (0)), .pv (.bool false), .pv (.int .i64 (0)), .pv (.str []), .pv (.int .i64 (0)), .pv (.int .i64 (0)), .pv (.int .i64 (0))], none, 0⟩,
 ⟨none, .store 7 (.t 10) (.t 29), none, 255⟩] false)
 (.seq (.seq (.reg [⟨(some 30), .mv (.t 2), none, 0⟩,
 ⟨(some 31), .bin .eql (.t 30) (.c (.pv (.int .i64 (3)))), none, 1⟩,
 ⟨(some 32), .mv (.t 31), none, 3⟩,
 ⟨(some 33), .mv (.t 2), (some (32, false)), 7⟩,
 ⟨(some 34), .bin .eql (.t 33) (.c (.pv (.int .i64 (4)))), (some (32, false)), 15⟩,
 ⟨(some 35), .pick (.t 32) (.c (.pv (.bool true))) (.t 34), none, 31⟩] false)
 (.cond (.t 35)
 (.seq (.reg [⟨(some 36), .load true 7 (.t 10), none, 0⟩,
 ⟨none, .store 7 (.t 8) (.t 36), none, 1⟩] false)
 (.ret))
 (.skip)))
 (.seq (.reg [⟨(some 37), .mv (.t 0), none, 0⟩,
 ⟨(some 38), .mv (.t 9), none, 0⟩,
 ⟨(some 39), .iaddr 7 (.t 37) (.t 38), none, 3⟩,
 ⟨(some 40), .faddr (.t 39) 1, none, 7⟩,
 ⟨(some 41), .load false 1 (.t 40), none, 15⟩,
 ⟨(some 42), .strlen (.t 41), none, 31⟩,
 ⟨(some 43), .mv (.t 0), none, 0⟩,
 ⟨(some 44), .mv (.t 9), none, 0⟩,
 ⟨(some 45), .iaddr 7 (.t 43) (.t 44), none, 192⟩,
 ⟨(some 46), .faddr (.t 45) 2, none, 448⟩,
 ⟨(some 47), .load false 1 (.t 46), none, 960⟩,
 ⟨(some 48), .slen (.t 47), none, 1984⟩,
 ⟨(some 49), .bin .add (.t 42) (.t 48), none, 4095⟩,
 ⟨(some 50), .faddr (.t 10) 6, none, 8191⟩,
 ⟨none, .store 1 (.t 50) (.t 49), none, 16383⟩] true)
 (.seq (.seq (.reg [⟨(some 51), .faddr (.t 7) 2, none, 0⟩,
 ⟨(some 52), .load false 1 (.t 51), none, 1⟩,
 ⟨(some 53), .bin .rem (.t 52) (.c (.pv (.int .u8 (3)))), none, 3⟩,
 ⟨(some 54), .bin .eql (.t 53) (.c (.pv (.int .u8 (2)))), none, 7⟩] false)
 (.cond (.t 54)
 (.seq (.reg [⟨(some 55), .faddr (.t 7) 2, none, 0⟩,
 ⟨(some 56), .load false 1 (.t 55), none, 1⟩,
 ⟨(some 57), .conv .i64 (.t 56), none, 3⟩,
 ⟨(some 58), .faddr (.t 10) 6, none, 0⟩,
 ⟨(some 59), .load false 1 (.t 58), none, 8⟩,
 ⟨(some 60), .bin .add (.t 59) (.c (.pv (.int .i64 (1)))), none, 24⟩,
 ⟨(some 61), .bin .rem (.t 57) (.t 60), none, 63⟩,
 ⟨(some 62), .faddr (.t 10) 5, none, 127⟩,
 ⟨none, .store 1 (.t 62) (.t 61), none, 255⟩] false)
 (.reg [⟨(some 63), .faddr (.t 7) 2, none, 0⟩,
 ⟨(some 64), .load false 1 (.t 63), none, 1⟩,
 ⟨(some 65), .conv .i64 (.t 64), none, 3⟩,
 ⟨(some 66), .bin .quo (.t 65) (.c (.pv (.int .i64 (3)))), none, 7⟩,
 ⟨(some 67), .faddr (.t 10) 6, none, 0⟩,
 ⟨(some 68), .load false 1 (.t 67), none, 16⟩,
 ⟨(some 69), .faddr (.t 10) 5, none, 0⟩,
 ⟨(some 70), .load false 1 (.t 69), none, 64⟩,
 ⟨(some 71), .bin .sub (.t 68) (.t 70), none, 240⟩,
 ⟨(some 72), .bin .add (.t 71) (.c (.pv (.int .i64 (1)))), none, 496⟩,
 ⟨(some 73), .bin .rem (.t 66) (.t 72), none, 1023⟩,
 ⟨(some 74), .faddr (.t 10) 6, none, 2047⟩,
 ⟨none, .store 1 (.t 74) (.t 73), none, 4095⟩] false))
 (.skip)))
 (.seq (.reg [⟨(some 75), .load true 7 (.t 10), none, 0⟩,
 ⟨none, .store 7 (.t 8) (.t 75), none, 1⟩] false)
 (.ret))))))))⟩
def c_ref11_sameObjs : RFn := ⟨2, 26, [.tmp 4],
 .seq (.reg [⟨(some 4), .mv (.c (.pv (.bool false))), none, 0⟩] false)
 (.seq (.seq (.reg [⟨(some 6), .mv (.t 0), none, 0⟩,
 ⟨(some 7), .slen (.t 6), none, 1⟩,
 ⟨(some 8), .mv (.t 1), none, 0⟩,
 ⟨(some 9), .slen (.t 8), none, 4⟩,
 ⟨(some 10), .bin .neq (.t 7) (.t 9), none, 15⟩] false)
 (.cond (.t 10)
 (.seq (.reg [⟨(some 4), .mv (.c (.pv (.bool false))), none, 0⟩] false)
 (.ret))
 (.skip)))
 (.seq (.seq (.reg [⟨(some 5), .mv (.c (.pv (.int .i64 (0)))), none, 0⟩] false)
 (.block 0
 (.loop [0, 1, 5]
 (.seq (.seq (.reg [⟨(some 11), .mv (.t 5), none, 0⟩,
 ⟨(some 12), .mv (.t 0), none, 0⟩,
 ⟨(some 13), .slen (.t 12), none, 2⟩,
 ⟨(some 14), .bin .lss (.t 11) (.t 13), none, 7⟩] false)
 (.cond (.t 14)
 (.skip)
 (.exit 0)))
 (.seq (.block 1
 (.seq (.reg [⟨(some 17), .mv (.t 0), none, 0⟩,
 ⟨(some 18), .mv (.t 5), none, 0⟩,
 ⟨(some 19), .iaddr 7 (.t 17) (.t 18), none, 3⟩,
 ⟨(some 20), .load true 7 (.t 19), none, 7⟩,
 ⟨(some 21), .mv (.t 1), none, 0⟩,
 ⟨(some 22), .mv (.t 5), none, 0⟩,
 ⟨(some 23), .iaddr 7 (.t 21) (.t 22), none, 48⟩,
 ⟨(some 24), .load true 7 (.t 23), none, 112⟩,
 ⟨(some 25), .eqs true [0, 1, 0, 2, 0, 0, 0] (.t 20) (.t 24), none, 255⟩] true)
 (.cond (.t 25)
 (.seq (.reg [⟨(some 4), .mv (.c (.pv (.bool false))), none, 0⟩] false)
 (.ret))
 (.skip))))
 (.reg [⟨(some 15), .mv (.t 5), none, 0⟩,
 ⟨(some 16), .bin .add (.t 15) (.c (.pv (.int .i64 (1)))), none, 1⟩,
 ⟨(some 5), .mv (.t 16), none, 3⟩] false))))))
 (.seq (.reg [⟨(some 4), .mv (.c (.pv (.bool true))), none, 0⟩] false)
 (.ret))))⟩
def c_law11_sample : RFn := ⟨0, 13, [.tmp 0],
 .seq (.reg [⟨(some 0), .mv (.c (.emp 7)), none, 0⟩] false)
 (.seq (.reg [⟨(some 1), .build [.pv (.int .i64 (0)), .pv (.str []), .emp 7, .emp 7, .emp 7, .pv (.int .i64 (0)), .pv (.int .i64 (0))] [(0, 1, .c (.pv (.int .i64 (1)))), (1, 1, .c (.pv (.str [97, 98, 99, 100, 101, 102])))], none, 0⟩,
 ⟨(some 2), .build [.pv (.int .i64 (0)), .pv (.bool false), .pv (.int .i64 (0)), .pv (.str []), .pv (.int .i64 (0)), .pv (.int .i64 (0)), .pv (.int .i64 (0))] [(0, 1, .c (.pv (.int .i64 (3)))), (2, 1, .c (.pv (.int .i64 (1))))], none, 0⟩,
 ⟨(some 3), .build [.pv (.int .i64 (0)), .pv (.bool false), .pv (.int .i64 (0)), .pv (.str []), .pv (.int .i64 (0)), .pv (.int .i64 (0)), .pv (.int .i64 (0))] [(0, 1, .c (.pv (.int .i64 (6)))), (5, 1, .c (.pv (.int .i64 (2)))), (6, 1, .c (.pv (.int .i64 (2))))], none, 0⟩,
 ⟨(some 4), .build [.pv (.int .i64 (0)), .pv (.bool false), .pv (.int .i64 (0)), .pv (.str []), .pv (.int .i64 (0)), .pv (.int .i64 (0)), .pv (.int .i64 (0))] [], none, 0⟩,
 ⟨(some 5), .bsl 7 3 [.pv (.int .i64 (0)), .pv (.bool false), .pv (.int .i64 (0)), .pv (.str []), .pv (.int .i64 (0)), .pv (.int .i64 (0)), .pv (.int .i64 (0))] [(0, .t 2), (1, .t 3), (2, .t 4)], none, 14⟩,
 ⟨(some 6), .build [.pv (.int .i64 (0)), .pv (.str []), .emp 7, .emp 7, .emp 7, .pv (.int .i64 (0)), .pv (.int .i64 (0))] [(0, 1, .c (.pv (.int .i64 (2)))), (2, 1, .t 5)], none, 30⟩,
 ⟨(some 7), .build [.pv (.int .i64 (0)), .pv (.bool false), .pv (.int .i64 (0)), .pv (.str []), .pv (.int .i64 (0)), .pv (.int .i64 (0)), .pv (.int .i64 (0))] [(0, 1, .c (.pv (.int .i64 (5)))), (3, 1, .c (.pv (.str [97])))], none, 0⟩,
 ⟨(some 8), .bsl 7 1 [.pv (.int .i64 (0)), .pv (.bool false), .pv (.int .i64 (0)), .pv (.str []), .pv (.int .i64 (0)), .pv (.int .i64 (0)), .pv (.int .i64 (0))] [(0, .t 7)], none, 64⟩,
 ⟨(some 9), .build [.pv (.int .i64 (0)), .pv (.bool false), .pv (.int .i64 (0)), .pv (.str []), .pv (.int .i64 (0)), .pv (.int .i64 (0)), .pv (.int .i64 (0))] [(0, 1, .c (.pv (.int .i64 (3)))), (2, 1, .c (.pv (.int .i64 (7))))], none, 0⟩,
 ⟨(some 10), .bsl 7 1 [.pv (.int .i64 (0)), .pv (.bool false), .pv (.int .i64 (0)), .pv (.str []), .pv (.int .i64 (0)), .pv (.int .i64 (0)), .pv (.int .i64 (0))] [(0, .t 9)], none, 256⟩,
 ⟨(some 11), .build [.pv (.int .i64 (0)), .pv (.str []), .emp 7, .emp 7, .emp 7, .pv (.int .i64 (0)), .pv (.int .i64 (0))] [(0, 1, .c (.pv (.int .i64 (3)))), (5, 1, .c (.pv (.int .i64 (2)))), (3, 1, .t 8), (4, 1, .t 10)], none, 960⟩,
 ⟨(some 12), .bsl 7 3 [.pv (.int .i64 (0)), .pv (.str []), .emp 7, .emp 7, .emp 7, .pv (.int .i64 (0)), .pv (.int .i64 (0))] [(0, .t 1), (1, .t 6), (2, .t 11)], none, 2047⟩,
 ⟨(some 0), .mv (.t 12), none, 4095⟩] false)
 (.ret))⟩
def c_law11_str : RFn := ⟨3, 11, [.cell 6 true 7],
 .seq (.reg [⟨(some 6), .alloc [.pv (.int .i64 (0)), .pv (.bool false), .pv (.int .i64 (0)), .pv (.str []), .pv (.int .i64 (0)), .pv (.int .i64 (0)), .pv (.int .i64 (0))], none, 0⟩] false)
 (.seq (.reg [⟨(some 7), .mv (.t 0), none, 0⟩,
 ⟨(some 8), .mv (.t 1), none, 0⟩,
 ⟨(some 9), .mv (.t 2), none, 0⟩,
 ⟨(some 10), .build [.pv (.int .i64 (0)), .pv (.bool false), .pv (.int .i64 (0)), .pv (.str []), .pv (.int .i64 (0)), .pv (.int .i64 (0)), .pv (.int .i64 (0))] [(0, 1, .c (.pv (.int .i64 (6)))), (4, 1, .t 7), (5, 1, .t 8), (6, 1, .t 9)], none, 7⟩,
 ⟨none, .store 7 (.t 6) (.t 10), none, 15⟩] false)
 (.ret))⟩
def c_law11_name : RFn := ⟨1, 5, [.cell 2 true 7],
 .seq (.reg [⟨(some 2), .alloc [.pv (.int .i64 (0)), .pv (.bool false), .pv (.int .i64 (0)), .pv (.str []), .pv (.int .i64 (0)), .pv (.int .i64 (0)), .pv (.int .i64 (0))], none, 0⟩] false)
 (.seq (.reg [⟨(some 3), .mv (.t 0), none, 0⟩,
 ⟨(some 4), .build [.pv (.int .i64 (0)), .pv (.bool false), .pv (.int .i64 (0)), .pv (.str []), .pv (.int .i64 (0)), .pv (.int .i64 (0)), .pv (.int .i64 (0))] [(0, 1, .c (.pv (.int .i64 (5)))), (3, 1, .t 3)], none, 1⟩,
 ⟨none, .store 7 (.t 2) (.t 4), none, 3⟩] false)
 (.ret))⟩
def c_heap_store_bare : RFn := ⟨2, 74, [.tmp 4],
 .seq (.reg [⟨(some 2), .box 1 (.t 0), none, 0⟩,
 ⟨(some 3), .box 7 (.t 1), none, 0⟩,
 ⟨(some 4), .mv (.c (.pv (.bool false))), none, 0⟩] false)
 (.seq (.reg [⟨(some 7), .faddr (.t 3) 2, none, 0⟩,
 ⟨(some 8), .load false 1 (.t 7), none, 1⟩,
 ⟨(some 9), .slen (.t 8), none, 3⟩,
 ⟨(some 10), .faddr (.t 3) 3, none, 0⟩,
 ⟨(some 11), .load false 1 (.t 10), none, 8⟩,
 ⟨(some 12), .slen (.t 11), none, 24⟩,
 ⟨(some 13), .faddr (.t 3) 4, none, 0⟩,
 ⟨(some 14), .load false 1 (.t 13), none, 64⟩,
 ⟨(some 15), .slen (.t 14), none, 192⟩,
 ⟨(some 16), .bin .add (.t 12) (.t 15), none, 504⟩,
 ⟨(some 5), .mv (.t 9), none, 7⟩,
 ⟨(some 6), .mv (.t 16), none, 2047⟩] false)
 (.seq (.seq (.reg [⟨(some 17), .faddr (.t 3) 0, none, 0⟩,
 ⟨(some 18), .load false 1 (.t 17), none, 1⟩] false)
 (.block 0
 (.seq (.reg [⟨(some 20), .bin .eql (.t 18) (.c (.pv (.int .i64 (1)))), none, 0⟩,
 ⟨(some 19), .mv (.t 20), none, 1⟩] false)
 (.cond (.t 19)
 (.seq (.reg [⟨(some 21), .mv (.t 5), none, 0⟩,
 ⟨(some 22), .mv (.t 6), none, 0⟩,
 ⟨(some 23), .bin .add (.t 21) (.t 22), none, 3⟩,
 ⟨(some 24), .bin .eql (.t 23) (.c (.pv (.int .i64 (0)))), none, 7⟩,
 ⟨(some 25), .mv (.t 24), none, 15⟩,
 ⟨(some 26), .faddr (.t 3) 5, (some (25, true)), 31⟩,
 ⟨(some 27), .load false 1 (.t 26), (some (25, true)), 63⟩,
 ⟨(some 28), .bin .eql (.t 27) (.c (.pv (.int .i64 (0)))), (some (25, true)), 127⟩,
 ⟨(some 29), .pick (.t 25) (.t 28) (.c (.pv (.bool false))), none, 255⟩,
 ⟨(some 30), .mv (.t 29), none, 511⟩,
 ⟨(some 31), .faddr (.t 3) 6, (some (30, true)), 1023⟩,
 ⟨(some 32), .load false 1 (.t 31), (some (30, true)), 2047⟩,
 ⟨(some 33), .bin .eql (.t 32) (.c (.pv (.int .i64 (0)))), (some (30, true)), 4095⟩,
 ⟨(some 34), .pick (.t 30) (.t 33) (.c (.pv (.bool false))), none, 8191⟩,
 ⟨(some 4), .mv (.t 34), none, 16383⟩] false)
 (.ret))
 (.seq (.reg [⟨(some 36), .bin .eql (.t 18) (.c (.pv (.int .i64 (2)))), none, 0⟩,
 ⟨(some 35), .mv (.t 36), none, 1⟩] false)
 (.cond (.t 35)
 (.seq (.reg [⟨(some 37), .faddr (.t 3) 1, none, 0⟩,
 ⟨(some 38), .load false 1 (.t 37), none, 1⟩,
 ⟨(some 39), .bin .eql (.t 38) (.c (.pv (.str []))), none, 3⟩,
 ⟨(some 40), .mv (.t 39), none, 7⟩,
 ⟨(some 41), .mv (.t 6), (some (40, true)), 15⟩,
 ⟨(some 42), .bin .eql (.t 41) (.c (.pv (.int .i64 (0)))), (some (40, true)), 31⟩,
 ⟨(some 43), .pick (.t 40) (.t 42) (.c (.pv (.bool false))), none, 63⟩,
 ⟨(some 44), .mv (.t 43), none, 127⟩,
 ⟨(some 45), .faddr (.t 3) 5, (some (44, true)), 255⟩,
 ⟨(some 46), .load false 1 (.t 45), (some (44, true)), 511⟩,
 ⟨(some 47), .bin .eql (.t 46) (.c (.pv (.int .i64 (0)))), (some (44, true)), 1023⟩,
 ⟨(some 48), .pick (.t 44) (.t 47) (.c (.pv (.bool false))), none, 2047⟩,
 ⟨(some 49), .mv (.t 48), none, 4095⟩,
 ⟨(some 50), .faddr (.t 3) 6, (some (49, true)), 8191⟩,
 ⟨(some 51), .load false 1 (.t 50), (some (49, true)), 16383⟩,
 ⟨(some 52), .bin .eql (.t 51) (.c (.pv (.int .i64 (0)))), (some (49, true)), 32767⟩,
 ⟨(some 53), .pick (.t 49) (.t 52) (.c (.pv (.bool false))), none, 65535⟩,
 ⟨(some 4), .mv (.t 53), none, 131071⟩] false)
 (.ret))
 (.seq (.reg [⟨(some 55), .bin .eql (.t 18) (.c (.pv (.int .i64 (3)))), none, 0⟩,
 ⟨(some 54), .mv (.t 55), none, 1⟩] false)
 (.cond (.t 54)
 (.seq (.reg [⟨(some 56), .faddr (.t 3) 1, none, 0⟩,
 ⟨(some 57), .load false 1 (.t 56), none, 1⟩,
 ⟨(some 58), .bin .eql (.t 57) (.c (.pv (.str []))), none, 3⟩,
 ⟨(some 59), .mv (.t 58), none, 7⟩,
 ⟨(some 60), .mv (.t 5), (some (59, true)), 15⟩,
 ⟨(some 61), .bin .eql (.t 60) (.c (.pv (.int .i64 (0)))), (some (59, true)), 31⟩,
 ⟨(some 62), .pick (.t 59) (.t 61) (.c (.pv (.bool false))), none, 63⟩,
 ⟨(some 63), .mv (.t 62), none, 127⟩,
 ⟨(some 64), .faddr (.t 3) 6, (some (63, true)), 255⟩,
 ⟨(some 65), .load false 1 (.t 64), (some (63, true)), 511⟩,
 ⟨(some 66), .bin .eql (.t 65) (.c (.pv (.int .i64 (0)))), (some (63, true)), 1023⟩,
 ⟨(some 67), .pick (.t 63) (.t 66) (.c (.pv (.bool false))), none, 2047⟩,
 ⟨(some 4), .mv (.t 67), none, 4095⟩] false)
 (.ret))
 (.seq (.reg [⟨(some 69), .bin .eql (.t 18) (.c (.pv (.int .i64 (4)))), none, 0⟩,
 ⟨(some 68), .mv (.t 69), none, 1⟩] false)
 (.cond (.t 68)
 (.seq (.reg [⟨(some 70), .mv (.t 5), none, 0⟩,
 ⟨(some 71), .mv (.t 6), none, 0⟩,
 ⟨(some 72), .bin .add (.t 70) (.t 71), none, 3⟩,
 ⟨(some 73), .bin .eql (.t 72) (.c (.pv (.int .i64 (0)))), none, 7⟩,
 ⟨(some 4), .mv (.t 73), none, 15⟩] false)
 (.ret))
 (.skip)))))))))))
 (.seq (.reg [⟨(some 4), .mv (.c (.pv (.bool false))), none, 0⟩] false)
 (.ret))))⟩
def c_heap_store_limited : RFn := ⟨2, 73, [.tmp 4],
 .seq (.reg [⟨(some 2), .box 1 (.t 0), none, 0⟩,
 ⟨(some 3), .box 7 (.t 1), none, 0⟩,
 ⟨(some 4), .mv (.c (.pv (.bool false))), none, 0⟩] false)
 (.seq (.seq (.reg [⟨(some 5), .faddr (.t 3) 0, none, 0⟩,
 ⟨(some 6), .load false 1 (.t 5), none, 1⟩] false)
 (.block 0
 (.seq (.reg [⟨(some 8), .bin .eql (.t 6) (.c (.pv (.int .i64 (1)))), none, 0⟩,
 ⟨(some 7), .mv (.t 8), none, 1⟩] false)
 (.cond (.t 7)
 (.seq (.reg [⟨(some 9), .faddr (.t 3) 1, none, 0⟩,
 ⟨(some 10), .load false 1 (.t 9), none, 1⟩,
 ⟨(some 11), .strlen (.t 10), none, 3⟩,
 ⟨(some 12), .bin .leq (.t 11) (.c (.pv (.int .i64 (1000)))), none, 7⟩,
 ⟨(some 4), .mv (.t 12), none, 15⟩] false)
 (.ret))
 (.seq (.reg [⟨(some 14), .bin .eql (.t 6) (.c (.pv (.int .i64 (2)))), none, 0⟩,
 ⟨(some 13), .mv (.t 14), none, 1⟩] false)
 (.cond (.t 13)
 (.seq (.reg [⟨(some 15), .faddr (.t 3) 2, none, 0⟩,
 ⟨(some 16), .load false 1 (.t 15), none, 1⟩,
 ⟨(some 17), .slen (.t 16), none, 3⟩,
 ⟨(some 18), .bin .leq (.t 17) (.c (.pv (.int .i64 (1000)))), none, 7⟩,
 ⟨(some 4), .mv (.t 18), none, 15⟩] false)
 (.ret))
 (.seq (.reg [⟨(some 20), .bin .eql (.t 6) (.c (.pv (.int .i64 (3)))), none, 0⟩,
 ⟨(some 19), .mv (.t 20), none, 1⟩] false)
 (.cond (.t 19)
 (.seq (.reg [⟨(some 21), .faddr (.t 3) 5, none, 0⟩,
 ⟨(some 22), .load false 1 (.t 21), none, 1⟩,
 ⟨(some 23), .bin .geq (.t 22) (.c (.pv (.int .i64 (0)))), none, 3⟩,
 ⟨(some 24), .mv (.t 23), none, 7⟩,
 ⟨(some 25), .faddr (.t 3) 5, (some (24, true)), 15⟩,
 ⟨(some 26), .load false 1 (.t 25), (some (24, true)), 31⟩,
 ⟨(some 27), .bin .leq (.t 26) (.c (.pv (.int .i64 (200)))), (some (24, true)), 63⟩,
 ⟨(some 28), .pick (.t 24) (.t 27) (.c (.pv (.bool false))), none, 127⟩,
 ⟨(some 29), .mv (.t 28), none, 255⟩,
 ⟨(some 30), .faddr (.t 3) 3, (some (29, true)), 511⟩,
 ⟨(some 31), .load false 1 (.t 30), (some (29, true)), 1023⟩,
 ⟨(some 32), .slen (.t 31), (some (29, true)), 2047⟩,
 ⟨(some 33), .faddr (.t 3) 4, (some (29, true)), 511⟩,
 ⟨(some 34), .load false 1 (.t 33), (some (29, true)), 4607⟩,
 ⟨(some 35), .slen (.t 34), (some (29, true)), 12799⟩,
 ⟨(some 36), .bin .eql (.t 32) (.t 35), (some (29, true)), 32767⟩,
 ⟨(some 37), .pick (.t 29) (.t 36) (.c (.pv (.bool false))), none, 65535⟩,
 ⟨(some 38), .mv (.t 37), none, 131071⟩,
 ⟨(some 39), .faddr (.t 3) 3, (some (38, true)), 262143⟩,
 ⟨(some 40), .load false 1 (.t 39), (some (38, true)), 524287⟩,
 ⟨(some 41), .slen (.t 40), (some (38, true)), 1048575⟩,
 ⟨(some 42), .faddr (.t 3) 5, (some (38, true)), 262143⟩,
 ⟨(some 43), .load false 1 (.t 42), (some (38, true)), 2359295⟩,
 ⟨(some 44), .bin .leq (.t 41) (.t 43), (some (38, true)), 8388607⟩,
 ⟨(some 45), .pick (.t 38) (.t 44) (.c (.pv (.bool false))), none, 16777215⟩,
 ⟨(some 4), .mv (.t 45), none, 33554431⟩] false)
 (.ret))
 (.skip)))))))))
 (.seq (.reg [⟨(some 46), .faddr (.t 3) 1, none, 0⟩,
 ⟨(some 47), .load false 1 (.t 46), none, 1⟩,
 ⟨(some 48), .strlen (.t 47), none, 3⟩,
 ⟨(some 49), .bin .leq (.t 48) (.c (.pv (.int .i64 (4000)))), none, 7⟩,
 ⟨(some 50), .mv (.t 49), none, 15⟩,
 ⟨(some 51), .faddr (.t 3) 6, (some (50, true)), 31⟩,
 ⟨(some 52), .load false 1 (.t 51), (some (50, true)), 63⟩,
 ⟨(some 53), .bin .geq (.t 52) (.c (.pv (.int .i64 (0)))), (some (50, true)), 127⟩,
 ⟨(some 54), .pick (.t 50) (.t 53) (.c (.pv (.bool false))), none, 255⟩,
 ⟨(some 55), .mv (.t 54), none, 511⟩,
 ⟨(some 56), .faddr (.t 3) 6, (some (55, true)), 1023⟩,
 ⟨(some 57), .load false 1 (.t 56), (some (55, true)), 2047⟩,
 ⟨(some 58), .faddr (.t 3) 1, (some (55, true)), 1023⟩,
 ⟨(some 59), .load false 1 (.t 58), (some (55, true)), 5119⟩,
 ⟨(some 60), .strlen (.t 59), (some (55, true)), 13311⟩,
 ⟨(some 61), .bin .leq (.t 57) (.t 60), (some (55, true)), 32767⟩,
 ⟨(some 62), .pick (.t 55) (.t 61) (.c (.pv (.bool false))), none, 65535⟩,
 ⟨(some 63), .mv (.t 62), none, 131071⟩,
 ⟨(some 64), .faddr (.t 3) 5, (some (63, true)), 262143⟩,
 ⟨(some 65), .load false 1 (.t 64), (some (63, true)), 524287⟩,
 ⟨(some 66), .bin .eql (.t 65) (.c (.pv (.int .i64 (0)))), (some (63, true)), 1048575⟩,
 ⟨(some 67), .mv (.t 66), (some (63, true)), 2097151⟩,
 ⟨(some 68), .faddr (.t 3) 5, (some (67, false)), 4194303⟩,
 ⟨(some 69), .load false 1 (.t 68), (some (67, false)), 8388607⟩,
 ⟨(some 70), .bin .eql (.t 69) (.c (.pv (.int .i64 (1)))), (some (67, false)), 16777215⟩,
 ⟨(some 71), .pick (.t 67) (.c (.pv (.bool true))) (.t 70), (some (63, true)), 33554431⟩,
 ⟨(some 72), .pick (.t 63) (.t 71) (.c (.pv (.bool false))), none, 67108863⟩,
 ⟨(some 4), .mv (.t 72), none, 134217727⟩] false)
 (.ret)))⟩
def c_heap_store_keyed : RFn := ⟨2, 47, [.cell 4 false 1],
 .seq (.reg [⟨(some 2), .box 1 (.t 0), none, 0⟩,
 ⟨(some 3), .box 7 (.t 1), none, 0⟩,
 ⟨(some 4), .alloc [.pv (.bool false)], none, 0⟩] false)
 (.seq (.seq (.reg [⟨(some 10), .load true 7 (.t 3), none, 0⟩,
 ⟨(some 11), .call (.f n_heap_objects) [.t 10], none, 1⟩] false)
 (.block 0
 (.rng (.t 11) [12]
 (.reg [⟨(some 5), .alloc [.pv (.int .i64 (0)), .pv (.bool false), .pv (.int .i64 (0)), .pv (.str []), .pv (.int .i64 (0)), .pv (.int .i64 (0)), .pv (.int .i64 (0))], none, 0⟩,
 ⟨none, .store 7 (.t 5) (.t 12), none, 1⟩] false)
 (.block 1
 (.seq (.reg [⟨(some 13), .faddr (.t 2) 0, none, 0⟩,
 ⟨(some 14), .load false 1 (.t 13), none, 1⟩,
 ⟨(some 15), .load true 7 (.t 5), none, 0⟩,
 ⟨(some 16), .call (.f n_heap_Fits) [.t 14, .t 15], none, 7⟩,
 ⟨(some 17), .not (.t 16), none, 15⟩] false)
 (.cond (.t 17)
 (.seq (.reg [⟨none, .store 1 (.t 4) (.c (.pv (.bool false))), none, 0⟩] false)
 (.ret))
 (.skip)))))))
 (.seq (.seq (.reg [⟨(some 18), .faddr (.t 3) 3, none, 0⟩,
 ⟨(some 19), .load false 1 (.t 18), none, 1⟩,
 ⟨(some 20), .slen (.t 19), none, 3⟩,
 ⟨(some 21), .mv (.c (.pv (.int .i64 (0)))), none, 0⟩] false)
 (.block 2
 (.loop [3, 4, 19, 20, 21]
 (.seq (.reg [⟨(some 22), .bin .lss (.t 21) (.t 20), none, 0⟩] false)
 (.seq (.cond (.t 22)
 (.skip)
 (.exit 2))
 (.seq (.block 3
 (.seq (.reg [⟨(some 23), .mv (.t 21), none, 0⟩,
 ⟨(some 24), .iaddr 7 (.t 19) (.t 21), none, 0⟩,
 ⟨(some 25), .load true 7 (.t 24), none, 2⟩,
 ⟨(some 7), .alloc [.pv (.int .i64 (0)), .pv (.bool false), .pv (.int .i64 (0)), .pv (.str []), .pv (.int .i64 (0)), .pv (.int .i64 (0)), .pv (.int .i64 (0))], none, 0⟩,
 ⟨(some 6), .mv (.t 23), none, 15⟩,
 ⟨none, .store 7 (.t 7) (.t 25), none, 31⟩] false)
 (.seq (.reg [⟨(some 27), .load true 7 (.t 7), none, 0⟩,
 ⟨(some 28), .call (.f n_object_Key) [.t 27], none, 1⟩,
 ⟨(some 26), .mv (.t 28), none, 3⟩,
 ⟨(some 29), .extract (.t 26) 0, none, 7⟩,
 ⟨(some 30), .extract (.t 26) 1, none, 7⟩,
 ⟨(some 8), .alloc [.pv (.int .i64 (0)), .pv (.bool false), .pv (.int .i64 (0)), .pv (.str []), .pv (.int .i64 (0)), .pv (.int .i64 (0)), .pv (.int .i64 (0))], none, 0⟩,
 ⟨none, .store 7 (.t 8) (.t 29), none, 47⟩,
 ⟨(some 9), .mv (.t 30), none, 127⟩] false)
 (.seq (.reg [⟨(some 31), .mv (.t 9), none, 0⟩,
 ⟨(some 32), .bin .neq (.t 31) (.c (.pv (.int .i64 (0)))), none, 1⟩,
 ⟨(some 33), .mv (.t 32), none, 3⟩,
 ⟨(some 34), .load true 7 (.t 8), (some (33, false)), 7⟩,
 ⟨(some 35), .load true 7 (.t 7), (some (33, false)), 7⟩,
 ⟨(some 36), .eqs true [0, 1, 0, 2, 0, 0, 0] (.t 34) (.t 35), (some (33, false)), 31⟩,
 ⟨(some 37), .pick (.t 33) (.c (.pv (.bool true))) (.t 36), none, 63⟩,
 ⟨(some 38), .mv (.t 37), none, 127⟩,
 ⟨(some 39), .faddr (.t 3) 3, (some (38, false)), 255⟩,
 ⟨(some 40), .load false 1 (.t 39), (some (38, false)), 511⟩,
 ⟨(some 41), .mv (.t 6), (some (38, false)), 255⟩,
 ⟨(some 42), .slice 7 (.t 40) none (some (.t 41)) none, (some (38, false)), 2047⟩,
 ⟨(some 43), .load true 7 (.t 7), (some (38, false)), 255⟩,
 ⟨(some 44), .call (.f n_slices_Contains_Obj) [.t 42, .t 43], (some (38, false)), 8191⟩,
 ⟨(some 45), .pick (.t 38) (.c (.pv (.bool true))) (.t 44), none, 16383⟩] true)
 (.cond (.t 45)
 (.seq (.reg [⟨none, .store 1 (.t 4) (.c (.pv (.bool false))), none, 0⟩] false)
 (.ret))
 (.skip))))))
 (.reg [⟨(some 46), .bin .add (.t 21) (.c (.pv (.int .i64 (1)))), none, 0⟩,
 ⟨(some 21), .mv (.t 46), none, 1⟩] false)))))))
 (.seq (.reg [⟨none, .store 1 (.t 4) (.c (.pv (.bool true))), none, 0⟩] false)
 (.ret))))⟩
def c_object_Check : RFn := ⟨1, 30, [.tmp 2],
 .seq (.reg [⟨(some 1), .box 7 (.t 0), none, 0⟩,
 ⟨(some 2), .mv (.c (.pv (.int .i64 (0)))), none, 0⟩] false)
 (.scope
 (.seq (.seq (.reg [⟨(some 7), .faddr (.t 1) 0, none, 0⟩,
 ⟨(some 8), .load false 1 (.t 7), none, 1⟩,
 ⟨(some 9), .bin .lss (.t 8) (.c (.pv (.int .i64 (0)))), none, 3⟩,
 ⟨(some 10), .mv (.t 9), none, 7⟩,
 ⟨(some 11), .faddr (.t 1) 0, (some (10, false)), 15⟩,
 ⟨(some 12), .load false 1 (.t 11), (some (10, false)), 31⟩,
 ⟨(some 13), .bin .geq (.t 12) (.c (.pv (.int .i64 (13)))), (some (10, false)), 63⟩,
 ⟨(some 14), .pick (.t 10) (.c (.pv (.bool true))) (.t 13), none, 127⟩] false)
 (.cond (.t 14)
 (.seq (.reg [⟨(some 2), .mv (.c (.pv (.int .i64 (200)))), none, 0⟩] false)
 (.ret))
 (.skip)))
 (.seq (.reg [⟨(some 15), .call (.f n_object_kinds) [], none, 0⟩,
 ⟨(some 16), .faddr (.t 1) 0, none, 0⟩,
 ⟨(some 17), .load false 1 (.t 16), none, 2⟩,
 ⟨(some 18), .index true 13 6 (.t 15) (.t 17), none, 7⟩,
 ⟨(some 3), .alloc [.pv (.str []), .pv (.int .i64 (0)), .pv (.int .i64 (0)), .pv (.int .i64 (0)), .pv (.int .i64 (0)), .pv (.int .i64 (0))], none, 0⟩,
 ⟨none, .store 6 (.t 3) (.t 18), none, 31⟩] true)
 (.seq (.reg [⟨(some 4), .mv (.c (.pv (.int .i64 (0)))), none, 0⟩] false)
 (.seq (.skip)
 (.seq (.seq (.reg [⟨(some 19), .build [.pv .nilFunc, .pv .nilFunc, .pv .nilFunc] [(0, 1, .f n_object_kind_number), (1, 1, .f n_object_kind_named), (2, 1, .f n_object_kind_referring)], none, 0⟩,
 ⟨(some 20), .mv (.c (.pv (.int .i64 (0)))), none, 0⟩] false)
 (.block 0
 (.loop [1, 3, 4, 19, 20]
 (.seq (.reg [⟨(some 21), .bin .lss (.t 20) (.c (.pv (.int .i64 (3)))), none, 0⟩] false)
 (.seq (.cond (.t 21)
 (.skip)
 (.exit 0))
 (.seq (.block 1
 (.seq (.reg [⟨(some 22), .index false 3 1 (.t 19) (.t 20), none, 0⟩,
 ⟨(some 6), .mv (.t 22), none, 1⟩] false)
 (.seq (.reg [⟨(some 23), .mv (.t 6), none, 0⟩,
 ⟨(some 24), .load true 6 (.t 3), none, 0⟩,
 ⟨(some 25), .load true 7 (.t 1), none, 0⟩,
 ⟨(some 26), .call (.t 23) [.t 24, .t 25], none, 7⟩,
 ⟨(some 27), .not (.t 26), none, 15⟩] false)
 (.cond (.t 27)
 (.seq (.reg [⟨(some 4), .mv (.c (.pv (.int .i64 (200)))), none, 0⟩] false)
 (.exit 0))
 (.skip)))))
 (.reg [⟨(some 28), .bin .add (.t 20) (.c (.pv (.int .i64 (1)))), none, 0⟩,
 ⟨(some 20), .mv (.t 28), none, 1⟩] false)))))))
 (.seq (.reg [⟨(some 29), .mv (.t 4), none, 0⟩,
 ⟨(some 2), .mv (.t 29), none, 1⟩] false)
 (.ret))))))))⟩
def c_heap_cellKind : RFn := ⟨1, 6, [.tmp 2],
 .seq (.reg [⟨(some 2), .mv (.c (.pv (.int .i64 (0)))), none, 0⟩] false)
 (.seq (.reg [⟨(some 3), .build [.pv (.int .i64 (0)), .pv (.int .i64 (0)), .pv (.int .i64 (0)), .pv (.int .i64 (0)), .pv (.int .i64 (0)), .pv (.int .i64 (0)), .pv (.int .i64 (0)), .pv (.int .i64 (0)), .pv (.int .i64 (0)), .pv (.int .i64 (0)), .pv (.int .i64 (0)), .pv (.int .i64 (0)), .pv (.int .i64 (0)), .pv (.int .i64 (0))] [(6, 1, .c (.pv (.int .i64 (1)))), (7, 1, .c (.pv (.int .i64 (2)))), (8, 1, .c (.pv (.int .i64 (2)))), (9, 1, .c (.pv (.int .i64 (3)))), (11, 1, .c (.pv (.int .i64 (4)))), (13, 1, .c (.pv (.int .i64 (0))))], none, 0⟩,
 ⟨(some 4), .mv (.t 0), none, 0⟩,
 ⟨(some 5), .index false 14 1 (.t 3) (.t 4), none, 3⟩,
 ⟨(some 2), .mv (.t 5), none, 7⟩] false)
 (.ret))⟩
def c_heap_length : RFn := ⟨1, 12, [.tmp 2],
 .seq (.reg [⟨(some 1), .box 7 (.t 0), none, 0⟩,
 ⟨(some 2), .mv (.c (.pv (.int .i64 (0)))), none, 0⟩] false)
 (.seq (.seq (.reg [⟨(some 3), .faddr (.t 1) 0, none, 0⟩,
 ⟨(some 4), .load false 1 (.t 3), none, 1⟩,
 ⟨(some 5), .bin .eql (.t 4) (.c (.pv (.int .i64 (1)))), none, 3⟩] false)
 (.cond (.t 5)
 (.seq (.reg [⟨(some 6), .faddr (.t 1) 1, none, 0⟩,
 ⟨(some 7), .load false 1 (.t 6), none, 1⟩,
 ⟨(some 8), .strlen (.t 7), none, 3⟩,
 ⟨(some 2), .mv (.t 8), none, 7⟩] false)
 (.ret))
 (.skip)))
 (.seq (.reg [⟨(some 9), .faddr (.t 1) 2, none, 0⟩,
 ⟨(some 10), .load false 1 (.t 9), none, 1⟩,
 ⟨(some 11), .slen (.t 10), none, 3⟩,
 ⟨(some 2), .mv (.t 11), none, 7⟩] false)
 (.ret)))⟩
def c_ref11_First : RFn := ⟨1, 89, [.tmp 2],
 .seq (.reg [⟨(some 2), .mv (.c (.emp 7)), none, 0⟩] false)
 (.seq (.reg [⟨(some 7), .call (.f n_ref11_dict) [.c (.pv (.int .i64 (200)))], none, 0⟩,
 ⟨(some 8), .call (.f n_ref11_dict) [.c (.pv (.int .i64 (50)))], none, 1⟩,
 ⟨(some 9), .call (.f n_ref11_dict) [.c (.pv (.int .i64 (30)))], none, 3⟩,
 ⟨(some 10), .call (.f n_ref11_dict) [.c (.pv (.int .i64 (12)))], none, 7⟩,
 ⟨(some 11), .call (.f n_ref11_dict) [.c (.pv (.int .i64 (5)))], none, 15⟩,
 ⟨(some 12), .bsl 7 5 [.pv (.int .i64 (0)), .pv (.str []), .emp 7, .emp 7, .emp 7, .pv (.int .i64 (0)), .pv (.int .i64 (0))] [(0, .t 7), (1, .t 8), (2, .t 9), (3, .t 10), (4, .t 11)], none, 31⟩,
 ⟨(some 3), .mv (.t 12), none, 63⟩] false)
 (.seq (.seq (.reg [⟨(some 4), .mv (.c (.pv (.int .i64 (0)))), none, 0⟩] false)
 (.block 0
 (.loop [0, 3, 4]
 (.seq (.seq (.reg [⟨(some 13), .mv (.t 4), none, 0⟩,
 ⟨(some 14), .mv (.t 0), none, 0⟩,
 ⟨(some 15), .slen (.t 14), none, 2⟩,
 ⟨(some 16), .bin .lss (.t 13) (.t 15), none, 7⟩,
 ⟨(some 17), .mv (.t 16), none, 15⟩,
 ⟨(some 18), .mv (.t 4), (some (17, true)), 31⟩,
 ⟨(some 19), .bin .lss (.t 18) (.c (.pv (.int .i64 (200)))), (some (17, true)), 63⟩,
 ⟨(some 20), .pick (.t 17) (.t 19) (.c (.pv (.bool false))), none, 127⟩] false)
 (.cond (.t 20)
 (.skip)
 (.exit 0)))
 (.seq (.block 1
 (.seq (.reg [⟨(some 23), .mv (.t 3), none, 0⟩,
 ⟨(some 24), .mv (.t 3), none, 0⟩,
 ⟨(some 25), .iaddr 7 (.t 24) (.c (.pv (.int .i64 (0)))), none, 2⟩,
 ⟨(some 26), .faddr (.t 25) 3, none, 6⟩,
 ⟨(some 27), .load false 1 (.t 26), none, 14⟩,
 ⟨(some 28), .mv (.t 0), none, 0⟩,
 ⟨(some 29), .mv (.t 4), none, 0⟩,
 ⟨(some 30), .iaddr 1 (.t 28) (.t 29), none, 96⟩,
 ⟨(some 31), .load false 1 (.t 30), none, 224⟩,
 ⟨(some 32), .call (.f n_ref11_name) [.t 31], none, 480⟩,
 ⟨(some 33), .bsl 7 1 [.pv (.int .i64 (0)), .pv (.bool false), .pv (.int .i64 (0)), .pv (.str []), .pv (.int .i64 (0)), .pv (.int .i64 (0)), .pv (.int .i64 (0))] [(0, .t 32)], none, 992⟩,
 ⟨(some 34), .append 7 64 (.t 27) (.t 33), none, 2046⟩,
 ⟨(some 35), .iaddr 7 (.t 23) (.c (.pv (.int .i64 (0)))), none, 4095⟩,
 ⟨(some 36), .faddr (.t 35) 3, none, 8191⟩,
 ⟨none, .store 1 (.t 36) (.t 34), none, 16383⟩] true)
 (.reg [⟨(some 37), .mv (.t 3), none, 0⟩,
 ⟨(some 38), .mv (.t 3), none, 0⟩,
 ⟨(some 39), .iaddr 7 (.t 38) (.c (.pv (.int .i64 (0)))), none, 2⟩,
 ⟨(some 40), .faddr (.t 39) 4, none, 6⟩,
 ⟨(some 41), .load false 1 (.t 40), none, 14⟩,
 ⟨(some 42), .mv (.t 0), none, 0⟩,
 ⟨(some 43), .mv (.t 4), none, 0⟩,
 ⟨(some 44), .iaddr 1 (.t 42) (.t 43), none, 96⟩,
 ⟨(some 45), .load false 1 (.t 44), none, 224⟩,
 ⟨(some 46), .build [.pv (.int .i64 (0)), .pv (.bool false), .pv (.int .i64 (0)), .pv (.str []), .pv (.int .i64 (0)), .pv (.int .i64 (0)), .pv (.int .i64 (0))] [(0, 1, .c (.pv (.int .i64 (10)))), (1, 1, .c (.pv (.bool true))), (3, 1, .t 45)], none, 480⟩,
 ⟨(some 47), .bsl 7 1 [.pv (.int .i64 (0)), .pv (.bool false), .pv (.int .i64 (0)), .pv (.str []), .pv (.int .i64 (0)), .pv (.int .i64 (0)), .pv (.int .i64 (0))] [(0, .t 46)], none, 992⟩,
 ⟨(some 48), .append 7 64 (.t 41) (.t 47), none, 2046⟩,
 ⟨(some 49), .iaddr 7 (.t 37) (.c (.pv (.int .i64 (0)))), none, 4095⟩,
 ⟨(some 50), .faddr (.t 49) 4, none, 8191⟩,
 ⟨none, .store 1 (.t 50) (.t 48), none, 16383⟩] true)))
 (.reg [⟨(some 21), .mv (.t 4), none, 0⟩,
 ⟨(some 22), .bin .add (.t 21) (.c (.pv (.int .i64 (1)))), none, 1⟩,
 ⟨(some 4), .mv (.t 22), none, 3⟩] false))))))
 (.seq (.reg [⟨(some 51), .call (.f n_ref11_Categories) [], none, 0⟩,
 ⟨(some 5), .mv (.t 51), none, 1⟩] false)
 (.seq (.seq (.reg [⟨(some 6), .mv (.c (.pv (.int .i64 (0)))), none, 0⟩] false)
 (.block 2
 (.loop [3, 5, 6]
 (.seq (.seq (.reg [⟨(some 52), .mv (.t 6), none, 0⟩,
 ⟨(some 53), .mv (.t 5), none, 0⟩,
 ⟨(some 54), .slen (.t 53), none, 2⟩,
 ⟨(some 55), .bin .lss (.t 52) (.t 54), none, 7⟩] false)
 (.cond (.t 55)
 (.skip)
 (.exit 2)))
 (.seq (.block 3
 (.seq (.reg [⟨(some 58), .mv (.t 3), none, 0⟩,
 ⟨(some 59), .mv (.t 3), none, 0⟩,
 ⟨(some 60), .iaddr 7 (.t 59) (.c (.pv (.int .i64 (4)))), none, 2⟩,
 ⟨(some 61), .faddr (.t 60) 3, none, 6⟩,
 ⟨(some 62), .load false 1 (.t 61), none, 14⟩,
 ⟨(some 63), .mv (.t 5), none, 0⟩,
 ⟨(some 64), .mv (.t 6), none, 0⟩,
 ⟨(some 65), .iaddr 1 (.t 63) (.t 64), none, 96⟩,
 ⟨(some 66), .load false 1 (.t 65), none, 224⟩,
 ⟨(some 67), .call (.f n_ref11_name) [.t 66], none, 480⟩,
 ⟨(some 68), .bsl 7 1 [.pv (.int .i64 (0)), .pv (.bool false), .pv (.int .i64 (0)), .pv (.str []), .pv (.int .i64 (0)), .pv (.int .i64 (0)), .pv (.int .i64 (0))] [(0, .t 67)], none, 992⟩,
 ⟨(some 69), .append 7 64 (.t 62) (.t 68), none, 2046⟩,
 ⟨(some 70), .iaddr 7 (.t 58) (.c (.pv (.int .i64 (4)))), none, 4095⟩,
 ⟨(some 71), .faddr (.t 70) 3, none, 8191⟩,
 ⟨none, .store 1 (.t 71) (.t 69), none, 16383⟩] true)
 (.seq (.reg [⟨(some 72), .mv (.t 3), none, 0⟩,
 ⟨(some 73), .mv (.t 3), none, 0⟩,
 ⟨(some 74), .iaddr 7 (.t 73) (.c (.pv (.int .i64 (4)))), none, 2⟩,
 ⟨(some 75), .faddr (.t 74) 4, none, 6⟩,
 ⟨(some 76), .load false 1 (.t 75), none, 14⟩,
 ⟨(some 77), .mv (.t 6), none, 0⟩,
 ⟨(some 78), .bin .add (.c (.pv (.int .i64 (5)))) (.t 77), none, 32⟩,
 ⟨(some 79), .build [.pv (.int .i64 (0)), .pv (.bool false), .pv (.int .i64 (0)), .pv (.str []), .pv (.int .i64 (0)), .pv (.int .i64 (0)), .pv (.int .i64 (0))] [(0, 1, .c (.pv (.int .i64 (9)))), (4, 1, .t 78)], none, 96⟩,
 ⟨(some 80), .bsl 7 1 [.pv (.int .i64 (0)), .pv (.bool false), .pv (.int .i64 (0)), .pv (.str []), .pv (.int .i64 (0)), .pv (.int .i64 (0)), .pv (.int .i64 (0))] [(0, .t 79)], none, 224⟩,
 ⟨(some 81), .append 7 64 (.t 76) (.t 80), none, 510⟩,
 ⟨(some 82), .iaddr 7 (.t 72) (.c (.pv (.int .i64 (4)))), none, 1023⟩,
 ⟨(some 83), .faddr (.t 82) 4, none, 2047⟩,
 ⟨none, .store 1 (.t 83) (.t 81), none, 4095⟩] false)
 (.reg [⟨(some 84), .mv (.t 3), none, 0⟩,
 ⟨(some 85), .call (.f n_ref11_dict) [.c (.pv (.int .i64 (10)))], none, 0⟩,
 ⟨(some 86), .bsl 7 1 [.pv (.int .i64 (0)), .pv (.str []), .emp 7, .emp 7, .emp 7, .pv (.int .i64 (0)), .pv (.int .i64 (0))] [(0, .t 85)], none, 2⟩,
 ⟨(some 87), .append 7 112 (.t 84) (.t 86), none, 7⟩,
 ⟨(some 3), .mv (.t 87), none, 15⟩] false))))
 (.reg [⟨(some 56), .mv (.t 6), none, 0⟩,
 ⟨(some 57), .bin .add (.t 56) (.c (.pv (.int .i64 (1)))), none, 1⟩,
 ⟨(some 6), .mv (.t 57), none, 3⟩] false))))))
 (.seq (.reg [⟨(some 88), .mv (.t 3), none, 0⟩,
 ⟨(some 2), .mv (.t 88), none, 1⟩] false)
 (.ret))))))⟩
def c_object_Compare : RFn := ⟨2, 42, [.tmp 4, .tmp 5],
 .seq (.reg [⟨(some 2), .box 7 (.t 0), none, 0⟩,
 ⟨(some 3), .box 7 (.t 1), none, 0⟩,
 ⟨(some 4), .mv (.c (.pv (.int .i64 (0)))), none, 0⟩,
 ⟨(some 5), .mv (.c (.pv (.int .i64 (0)))), none, 4⟩] false)
 (.seq (.seq (.reg [⟨(some 9), .load true 7 (.t 2), none, 0⟩,
 ⟨(some 10), .call (.f n_object_Check) [.t 9], none, 1⟩,
 ⟨(some 11), .bin .neq (.t 10) (.c (.pv (.int .i64 (0)))), none, 3⟩,
 ⟨(some 12), .mv (.t 11), none, 7⟩,
 ⟨(some 13), .load true 7 (.t 3), (some (12, false)), 15⟩,
 ⟨(some 14), .call (.f n_object_Check) [.t 13], (some (12, false)), 31⟩,
 ⟨(some 15), .bin .neq (.t 14) (.c (.pv (.int .i64 (0)))), (some (12, false)), 63⟩,
 ⟨(some 16), .pick (.t 12) (.c (.pv (.bool true))) (.t 15), none, 127⟩] false)
 (.cond (.t 16)
 (.seq (.reg [⟨(some 4), .mv (.c (.pv (.int .i64 (0)))), none, 0⟩,
 ⟨(some 5), .mv (.c (.pv (.int .i64 (200)))), none, 1⟩] false)
 (.ret))
 (.skip)))
 (.seq (.reg [⟨(some 18), .load true 7 (.t 2), none, 0⟩,
 ⟨(some 19), .call (.f n_object_Value) [.t 18], none, 1⟩,
 ⟨(some 17), .mv (.t 19), none, 3⟩,
 ⟨(some 20), .extract (.t 17) 0, none, 7⟩,
 ⟨(some 21), .extract (.t 17) 1, none, 7⟩,
 ⟨(some 6), .mv (.t 20), none, 15⟩,
 ⟨(some 7), .mv (.t 21), none, 63⟩] false)
 (.seq (.seq (.reg [⟨(some 22), .mv (.t 7), none, 0⟩,
 ⟨(some 23), .bin .neq (.t 22) (.c (.pv (.int .i64 (0)))), none, 1⟩] false)
 (.cond (.t 23)
 (.seq (.reg [⟨(some 24), .mv (.t 7), none, 0⟩,
 ⟨(some 4), .mv (.c (.pv (.int .i64 (0)))), none, 0⟩,
 ⟨(some 5), .mv (.t 24), none, 3⟩] false)
 (.ret))
 (.skip)))
 (.seq (.reg [⟨(some 26), .load true 7 (.t 3), none, 0⟩,
 ⟨(some 27), .call (.f n_object_Value) [.t 26], none, 1⟩,
 ⟨(some 25), .mv (.t 27), none, 3⟩,
 ⟨(some 28), .extract (.t 25) 0, none, 7⟩,
 ⟨(some 29), .extract (.t 25) 1, none, 7⟩,
 ⟨(some 8), .mv (.t 28), none, 15⟩,
 ⟨(some 7), .mv (.t 29), none, 63⟩] false)
 (.seq (.block 0
 (.seq (.reg [⟨(some 31), .mv (.t 7), none, 0⟩,
 ⟨(some 32), .bin .neq (.t 31) (.c (.pv (.int .i64 (0)))), none, 1⟩,
 ⟨(some 30), .mv (.t 32), none, 3⟩] false)
 (.cond (.t 30)
 (.seq (.reg [⟨(some 33), .mv (.t 7), none, 0⟩,
 ⟨(some 4), .mv (.c (.pv (.int .i64 (0)))), none, 0⟩,
 ⟨(some 5), .mv (.t 33), none, 3⟩] false)
 (.ret))
 (.seq (.reg [⟨(some 35), .mv (.t 6), none, 0⟩,
 ⟨(some 36), .mv (.t 8), none, 0⟩,
 ⟨(some 37), .bin .lss (.t 35) (.t 36), none, 3⟩,
 ⟨(some 34), .mv (.t 37), none, 7⟩] false)
 (.cond (.t 34)
 (.seq (.reg [⟨(some 4), .mv (.c (.pv (.int .i64 (-1)))), none, 0⟩,
 ⟨(some 5), .mv (.c (.pv (.int .i64 (0)))), none, 1⟩] false)
 (.ret))
 (.seq (.reg [⟨(some 39), .mv (.t 6), none, 0⟩,
 ⟨(some 40), .mv (.t 8), none, 0⟩,
 ⟨(some 41), .bin .gtr (.t 39) (.t 40), none, 3⟩,
 ⟨(some 38), .mv (.t 41), none, 7⟩] false)
 (.cond (.t 38)
 (.seq (.reg [⟨(some 4), .mv (.c (.pv (.int .i64 (1)))), none, 0⟩,
 ⟨(some 5), .mv (.c (.pv (.int .i64 (0)))), none, 1⟩] false)
 (.ret))
 (.skip))))))))
 (.seq (.reg [⟨(some 4), .mv (.c (.pv (.int .i64 (0)))), none, 0⟩,
 ⟨(some 5), .mv (.c (.pv (.int .i64 (0)))), none, 1⟩] false)
 (.ret)))))))⟩
def c_heap_octets : RFn := ⟨2, 22, [.tmp 4, .tmp 5],
 .seq (.reg [⟨(some 3), .box 7 (.t 1), none, 0⟩,
 ⟨(some 4), .mv (.c (.pv (.str []))), none, 0⟩,
 ⟨(some 5), .mv (.c (.pv (.bool false))), none, 2⟩] false)
 (.seq (.seq (.reg [⟨(some 8), .faddr (.t 3) 0, none, 0⟩,
 ⟨(some 9), .load false 1 (.t 8), none, 1⟩,
 ⟨(some 10), .bin .eql (.t 9) (.c (.pv (.int .i64 (5)))), none, 3⟩] false)
 (.cond (.t 10)
 (.seq (.reg [⟨(some 11), .faddr (.t 3) 3, none, 0⟩,
 ⟨(some 12), .load false 1 (.t 11), none, 1⟩,
 ⟨(some 4), .mv (.t 12), none, 3⟩,
 ⟨(some 5), .mv (.c (.pv (.bool true))), none, 7⟩] false)
 (.ret))
 (.skip)))
 (.seq (.reg [⟨(some 14), .mv (.t 0), none, 0⟩,
 ⟨(some 15), .load true 7 (.t 3), none, 0⟩,
 ⟨(some 16), .call (.f n_heap_Bytes) [.t 14, .t 15], none, 3⟩,
 ⟨(some 13), .mv (.t 16), none, 7⟩,
 ⟨(some 17), .extract (.t 13) 0, none, 15⟩,
 ⟨(some 18), .extract (.t 13) 1, none, 15⟩,
 ⟨(some 6), .mv (.t 17), none, 31⟩,
 ⟨(some 7), .mv (.t 18), none, 127⟩] false)
 (.seq (.reg [⟨(some 19), .mv (.t 6), none, 0⟩,
 ⟨(some 20), .mv (.t 7), none, 0⟩,
 ⟨(some 21), .bin .eql (.t 20) (.c (.pv (.int .i64 (0)))), none, 2⟩,
 ⟨(some 4), .mv (.t 19), none, 1⟩,
 ⟨(some 5), .mv (.t 21), none, 15⟩] false)
 (.ret))))⟩
def c_heap_Reach_1 : RFn := ⟨4, 37, [],
 .seq (.reg [⟨(some 4), .box 7 (.t 0), none, 0⟩] false)
 (.seq (.seq (.reg [⟨(some 6), .load false 1 (.t 1), none, 0⟩,
 ⟨(some 7), .load true 7 (.t 4), none, 0⟩,
 ⟨(some 8), .call (.f n_heap_Fits) [.t 6, .t 7], none, 3⟩,
 ⟨(some 9), .not (.t 8), none, 7⟩,
 ⟨(some 10), .mv (.t 9), none, 15⟩,
 ⟨(some 11), .faddr (.t 4) 0, (some (10, false)), 31⟩,
 ⟨(some 12), .load false 1 (.t 11), (some (10, false)), 63⟩,
 ⟨(some 13), .call (.f n_heap_cellKind) [.t 12], (some (10, false)), 127⟩,
 ⟨(some 14), .bin .eql (.t 13) (.c (.pv (.int .i64 (0)))), (some (10, false)), 255⟩,
 ⟨(some 15), .pick (.t 10) (.c (.pv (.bool true))) (.t 14), none, 511⟩,
 ⟨(some 16), .mv (.t 15), none, 1023⟩,
 ⟨(some 17), .load false 1 (.t 2), (some (16, false)), 2047⟩,
 ⟨(some 18), .faddr (.t 4) 4, (some (16, false)), 2047⟩,
 ⟨(some 19), .load false 1 (.t 18), (some (16, false)), 6143⟩,
 ⟨(some 20), .iaddr 1 (.t 17) (.t 19), (some (16, false)), 16383⟩,
 ⟨(some 21), .load false 1 (.t 20), (some (16, false)), 32767⟩,
 ⟨(some 22), .pick (.t 16) (.c (.pv (.bool true))) (.t 21), none, 65535⟩] false)
 (.cond (.t 22)
 (.ret)
 (.skip)))
 (.seq (.reg [⟨(some 23), .load false 1 (.t 2), none, 0⟩,
 ⟨(some 24), .faddr (.t 4) 4, none, 0⟩,
 ⟨(some 25), .load false 1 (.t 24), none, 2⟩,
 ⟨(some 26), .iaddr 1 (.t 23) (.t 25), none, 7⟩,
 ⟨none, .store 1 (.t 26) (.c (.pv (.bool true))), none, 15⟩] false)
 (.seq (.reg [⟨(some 27), .load false 1 (.t 1), none, 0⟩,
 ⟨(some 28), .faddr (.t 4) 4, none, 0⟩,
 ⟨(some 29), .load false 1 (.t 28), none, 2⟩,
 ⟨(some 30), .iaddr 7 (.t 27) (.t 29), none, 7⟩,
 ⟨(some 31), .load true 7 (.t 30), none, 15⟩,
 ⟨(some 32), .call (.f n_heap_objects) [.t 31], none, 31⟩] false)
 (.block 0
 (.rng (.t 32) [33]
 (.reg [⟨(some 5), .alloc [.pv (.int .i64 (0)), .pv (.bool false), .pv (.int .i64 (0)), .pv (.str []), .pv (.int .i64 (0)), .pv (.int .i64 (0)), .pv (.int .i64 (0))], none, 0⟩,
 ⟨none, .store 7 (.t 5) (.t 33), none, 1⟩] false)
 (.block 1
 (.reg [⟨(some 34), .load false 1 (.t 3), none, 0⟩,
 ⟨(some 35), .load true 7 (.t 5), none, 0⟩,
 ⟨(some 36), .call (.t 34) [.t 35], none, 3⟩] false)))))))⟩
def c_heap_objects : RFn := ⟨1, 4, [.tmp 2],
 .seq (.reg [⟨(some 1), .box 7 (.t 0), none, 0⟩,
 ⟨(some 2), .mv (.c (.pv .nilFunc)), none, 0⟩] false)
 (.seq (.reg [⟨(some 3), .mkf (.func n_heap_objects_1) [] [.t 1], none, 0⟩,
 ⟨(some 2), .mv (.t 3), none, 1⟩] false)
 (.ret))⟩
def c_ref11_dict : RFn := ⟨1, 5, [.cell 2 true 7],
 .seq (.reg [⟨(some 2), .alloc [.pv (.int .i64 (0)), .pv (.str []), .emp 7, .emp 7, .emp 7, .pv (.int .i64 (0)), .pv (.int .i64 (0))], none, 0⟩] false)
 (.seq (.reg [⟨(some 3), .mv (.t 0), none, 0⟩,
 ⟨(some 4), .build [.pv (.int .i64 (0)), .pv (.str []), .emp 7, .emp 7, .emp 7, .pv (.int .i64 (0)), .pv (.int .i64 (0))] [(0, 1, .c (.pv (.int .i64 (3)))), (5, 1, .t 3)], none, 1⟩,
 ⟨none, .store 7 (.t 2) (.t 4), none, 3⟩] false)
 (.ret))⟩
def c_ref11_name : RFn := ⟨1, 5, [.cell 2 true 7],
 .seq (.reg [⟨(some 2), .alloc [.pv (.int .i64 (0)), .pv (.bool false), .pv (.int .i64 (0)), .pv (.str []), .pv (.int .i64 (0)), .pv (.int .i64 (0)), .pv (.int .i64 (0))], none, 0⟩] false)
 (.seq (.reg [⟨(some 3), .mv (.t 0), none, 0⟩,
 ⟨(some 4), .build [.pv (.int .i64 (0)), .pv (.bool false), .pv (.int .i64 (0)), .pv (.str []), .pv (.int .i64 (0)), .pv (.int .i64 (0)), .pv (.int .i64 (0))] [(0, 1, .c (.pv (.int .i64 (5)))), (3, 1, .t 3)], none, 1⟩,
 ⟨none, .store 7 (.t 2) (.t 4), none, 3⟩] false)
 (.ret))⟩
def c_heap_viewOf : RFn := ⟨3, 23, [.cell 6 true 8, .tmp 7],
 .seq (.reg [⟨(some 4), .box 7 (.t 1), none, 0⟩,
 ⟨(some 6), .alloc [.emp 7, .pv (.int .i64 (0)), .pv (.bool false), .pv (.int .i64 (0)), .pv (.str []), .pv (.int .i64 (0)), .pv (.int .i64 (0)), .pv (.int .i64 (0))], none, 0⟩,
 ⟨(some 7), .mv (.c (.pv (.int .i64 (0)))), none, 0⟩] false)
 (.seq (.seq (.reg [⟨(some 8), .mv (.t 0), none, 0⟩,
 ⟨(some 9), .load true 7 (.t 4), none, 0⟩,
 ⟨(some 10), .call (.f n_heap_Fits) [.t 8, .t 9], none, 3⟩,
 ⟨(some 11), .not (.t 10), none, 7⟩] false)
 (.cond (.t 11)
 (.seq (.reg [⟨(some 12), .build [.emp 7, .pv (.int .i64 (0)), .pv (.bool false), .pv (.int .i64 (0)), .pv (.str []), .pv (.int .i64 (0)), .pv (.int .i64 (0)), .pv (.int .i64 (0))] [], none, 0⟩,
 ⟨none, .store 8 (.t 6) (.t 12), none, 1⟩,
 ⟨(some 7), .mv (.c (.pv (.int .i64 (2)))), none, 3⟩] false)
 (.ret))
 (.skip)))
 (.seq (.seq (.reg [⟨(some 13), .mv (.t 2), none, 0⟩,
 ⟨(some 14), .faddr (.t 4) 0, none, 0⟩,
 ⟨(some 15), .load false 1 (.t 14), none, 2⟩,
 ⟨(some 16), .call (.f n_slices_Contains_int) [.t 13, .t 15], none, 7⟩,
 ⟨(some 17), .not (.t 16), none, 15⟩] false)
 (.cond (.t 17)
 (.seq (.reg [⟨(some 18), .build [.emp 7, .pv (.int .i64 (0)), .pv (.bool false), .pv (.int .i64 (0)), .pv (.str []), .pv (.int .i64 (0)), .pv (.int .i64 (0)), .pv (.int .i64 (0))] [], none, 0⟩,
 ⟨none, .store 8 (.t 6) (.t 18), none, 1⟩,
 ⟨(some 7), .mv (.c (.pv (.int .i64 (22)))), none, 3⟩] false)
 (.ret))
 (.skip)))
 (.seq (.reg [⟨(some 19), .mv (.t 0), none, 0⟩,
 ⟨(some 20), .build [.emp 7] [(0, 1, .t 19)], none, 1⟩,
 ⟨(some 21), .load true 7 (.t 4), none, 0⟩,
 ⟨(some 22), .build [.emp 7, .pv (.int .i64 (0)), .pv (.bool false), .pv (.int .i64 (0)), .pv (.str []), .pv (.int .i64 (0)), .pv (.int .i64 (0)), .pv (.int .i64 (0))] [(0, 1, .t 20), (1, 7, .t 21)], none, 7⟩,
 ⟨none, .store 8 (.t 6) (.t 22), none, 15⟩,
 ⟨(some 7), .mv (.c (.pv (.int .i64 (0)))), none, 31⟩] false)
 (.ret))))⟩
def c_heap_view_room : RFn := ⟨3, 25, [.tmp 6],
 .seq (.reg [⟨(some 3), .box 8 (.t 0), none, 0⟩,
 ⟨(some 6), .mv (.c (.pv (.int .i64 (0)))), none, 0⟩] false)
 (.seq (.seq (.reg [⟨(some 7), .mv (.t 1), none, 0⟩,
 ⟨(some 8), .bin .lss (.t 7) (.c (.pv (.int .i64 (0)))), none, 1⟩,
 ⟨(some 9), .mv (.t 8), none, 3⟩,
 ⟨(some 10), .mv (.t 1), (some (9, false)), 7⟩,
 ⟨(some 11), .faddr (.t 3) 1, (some (9, false)), 7⟩,
 ⟨(some 12), .faddr (.t 11) 6, (some (9, false)), 23⟩,
 ⟨(some 13), .load false 1 (.t 12), (some (9, false)), 55⟩,
 ⟨(some 14), .bin .gtr (.t 10) (.t 13), (some (9, false)), 127⟩,
 ⟨(some 15), .pick (.t 9) (.c (.pv (.bool true))) (.t 14), none, 255⟩,
 ⟨(some 16), .mv (.t 15), none, 511⟩,
 ⟨(some 17), .mv (.t 2), (some (16, false)), 1023⟩,
 ⟨(some 18), .faddr (.t 3) 1, (some (16, false)), 1023⟩,
 ⟨(some 19), .faddr (.t 18) 6, (some (16, false)), 3071⟩,
 ⟨(some 20), .load false 1 (.t 19), (some (16, false)), 7167⟩,
 ⟨(some 21), .mv (.t 1), (some (16, false)), 1023⟩,
 ⟨(some 22), .bin .sub (.t 20) (.t 21), (some (16, false)), 31743⟩,
 ⟨(some 23), .bin .gtr (.t 17) (.t 22), (some (16, false)), 65535⟩,
 ⟨(some 24), .pick (.t 16) (.c (.pv (.bool true))) (.t 23), none, 131071⟩] false)
 (.cond (.t 24)
 (.seq (.reg [⟨(some 6), .mv (.c (.pv (.int .i64 (23)))), none, 0⟩] false)
 (.ret))
 (.skip)))
 (.seq (.reg [⟨(some 6), .mv (.c (.pv (.int .i64 (0)))), none, 0⟩] false)
 (.ret)))⟩
def c_heap_view_cell : RFn := ⟨1, 11, [.cell 2 true 7],
 .seq (.reg [⟨(some 1), .box 8 (.t 0), none, 0⟩,
 ⟨(some 2), .alloc [.pv (.int .i64 (0)), .pv (.str []), .emp 7, .emp 7, .emp 7, .pv (.int .i64 (0)), .pv (.int .i64 (0))], none, 0⟩] false)
 (.seq (.reg [⟨(some 3), .faddr (.t 1) 0, none, 0⟩,
 ⟨(some 4), .faddr (.t 3) 0, none, 1⟩,
 ⟨(some 5), .load false 1 (.t 4), none, 3⟩,
 ⟨(some 6), .faddr (.t 1) 1, none, 0⟩,
 ⟨(some 7), .faddr (.t 6) 4, none, 8⟩,
 ⟨(some 8), .load false 1 (.t 7), none, 24⟩,
 ⟨(some 9), .iaddr 7 (.t 5) (.t 8), none, 63⟩,
 ⟨(some 10), .load true 7 (.t 9), none, 127⟩,
 ⟨none, .store 7 (.t 2) (.t 10), none, 255⟩] false)
 (.ret))⟩
def c_heap_replaced_byte : RFn := ⟨3, 20, [.tmp 6],
 .seq (.reg [⟨(some 6), .mv (.c (.emp 1)), none, 0⟩] false)
 (.seq (.reg [⟨(some 8), .mv (.t 0), none, 0⟩,
 ⟨(some 9), .slen (.t 8), none, 1⟩,
 ⟨(some 10), .mksl 1 1 [.int .u8 (0)] (.t 9), none, 3⟩,
 ⟨(some 7), .mv (.t 10), none, 7⟩] false)
 (.seq (.reg [⟨(some 11), .mv (.t 7), none, 0⟩,
 ⟨(some 12), .mv (.t 0), none, 0⟩,
 ⟨(some 13), .copy 1 (.t 11) (.t 12), none, 3⟩] false)
 (.seq (.reg [⟨(some 14), .mv (.t 7), none, 0⟩,
 ⟨(some 15), .mv (.t 1), none, 0⟩,
 ⟨(some 16), .slice 1 (.t 14) (some (.t 15)) none none, none, 3⟩,
 ⟨(some 17), .mv (.t 2), none, 0⟩,
 ⟨(some 18), .copy 1 (.t 16) (.t 17), none, 15⟩] false)
 (.seq (.reg [⟨(some 19), .mv (.t 7), none, 0⟩,
 ⟨(some 6), .mv (.t 19), none, 1⟩] false)
 (.ret)))))⟩
def c_heap_view_with : RFn := ⟨2, 23, [.tmp 4],
 .seq (.reg [⟨(some 2), .box 8 (.t 0), none, 0⟩,
 ⟨(some 3), .box 7 (.t 1), none, 0⟩,
 ⟨(some 4), .mv (.c (.emp 7)), none, 0⟩] false)
 (.seq (.reg [⟨(some 6), .faddr (.t 2) 0, none, 0⟩,
 ⟨(some 7), .faddr (.t 6) 0, none, 1⟩,
 ⟨(some 8), .load false 1 (.t 7), none, 3⟩,
 ⟨(some 9), .slen (.t 8), none, 7⟩,
 ⟨(some 10), .mksl 7 112 [.int .i64 (0), .str [], .sl 7 [], .sl 7 [], .sl 7 [], .int .i64 (0), .int .i64 (0)] (.t 9), none, 15⟩,
 ⟨(some 5), .mv (.t 10), none, 31⟩] false)
 (.seq (.reg [⟨(some 11), .mv (.t 5), none, 0⟩,
 ⟨(some 12), .faddr (.t 2) 0, none, 0⟩,
 ⟨(some 13), .faddr (.t 12) 0, none, 2⟩,
 ⟨(some 14), .load false 1 (.t 13), none, 6⟩,
 ⟨(some 15), .copy 7 (.t 11) (.t 14), none, 15⟩] false)
 (.seq (.reg [⟨(some 16), .mv (.t 5), none, 0⟩,
 ⟨(some 17), .faddr (.t 2) 1, none, 0⟩,
 ⟨(some 18), .faddr (.t 17) 4, none, 2⟩,
 ⟨(some 19), .load false 1 (.t 18), none, 6⟩,
 ⟨(some 20), .load true 7 (.t 3), none, 0⟩,
 ⟨(some 21), .iaddr 7 (.t 16) (.t 19), none, 31⟩,
 ⟨none, .store 7 (.t 21) (.t 20), none, 63⟩] false)
 (.seq (.reg [⟨(some 22), .mv (.t 5), none, 0⟩,
 ⟨(some 4), .mv (.t 22), none, 1⟩] false)
 (.ret)))))⟩
def c_heap_replaced_Obj : RFn := ⟨3, 20, [.tmp 6],
 .seq (.reg [⟨(some 6), .mv (.c (.emp 7)), none, 0⟩] false)
 (.seq (.reg [⟨(some 8), .mv (.t 0), none, 0⟩,
 ⟨(some 9), .slen (.t 8), none, 1⟩,
 ⟨(some 10), .mksl 7 64 [.int .i64 (0), .bool false, .int .i64 (0), .str [], .int .i64 (0), .int .i64 (0), .int .i64 (0)] (.t 9), none, 3⟩,
 ⟨(some 7), .mv (.t 10), none, 7⟩] false)
 (.seq (.reg [⟨(some 11), .mv (.t 7), none, 0⟩,
 ⟨(some 12), .mv (.t 0), none, 0⟩,
 ⟨(some 13), .copy 7 (.t 11) (.t 12), none, 3⟩] false)
 (.seq (.reg [⟨(some 14), .mv (.t 7), none, 0⟩,
 ⟨(some 15), .mv (.t 1), none, 0⟩,
 ⟨(some 16), .slice 7 (.t 14) (some (.t 15)) none none, none, 3⟩,
 ⟨(some 17), .mv (.t 2), none, 0⟩,
 ⟨(some 18), .copy 7 (.t 16) (.t 17), none, 15⟩] false)
 (.seq (.reg [⟨(some 19), .mv (.t 7), none, 0⟩,
 ⟨(some 6), .mv (.t 19), none, 1⟩] false)
 (.ret)))))⟩
def c_object_Key : RFn := ⟨1, 37, [.cell 2 true 7, .tmp 3],
 .seq (.reg [⟨(some 1), .box 7 (.t 0), none, 0⟩,
 ⟨(some 2), .alloc [.pv (.int .i64 (0)), .pv (.bool false), .pv (.int .i64 (0)), .pv (.str []), .pv (.int .i64 (0)), .pv (.int .i64 (0)), .pv (.int .i64 (0))], none, 0⟩,
 ⟨(some 3), .mv (.c (.pv (.int .i64 (0)))), none, 0⟩] false)
 (.seq (.seq (.reg [⟨(some 5), .load true 7 (.t 1), none, 0⟩,
 ⟨(some 6), .call (.f n_object_Check) [.t 5], none, 1⟩,
 ⟨(some 4), .mv (.t 6), none, 3⟩] false)
 (.seq (.reg [⟨(some 7), .mv (.t 4), none, 0⟩,
 ⟨(some 8), .bin .neq (.t 7) (.c (.pv (.int .i64 (0)))), none, 1⟩] false)
 (.cond (.t 8)
 (.seq (.reg [⟨(some 9), .build [.pv (.int .i64 (0)), .pv (.bool false), .pv (.int .i64 (0)), .pv (.str []), .pv (.int .i64 (0)), .pv (.int .i64 (0)), .pv (.int .i64 (0))] [], none, 0⟩,
 ⟨(some 10), .mv (.t 4), none, 0⟩,
 ⟨none, .store 7 (.t 2) (.t 9), none, 1⟩,
 ⟨(some 3), .mv (.t 10), none, 7⟩] false)
 (.ret))
 (.skip))))
 (.seq (.seq (.reg [⟨(some 11), .load true 7 (.t 1), none, 0⟩,
 ⟨(some 12), .faddr (.t 1) 1, none, 0⟩,
 ⟨(some 13), .load false 1 (.t 12), none, 2⟩,
 ⟨(some 14), .build [.pv (.int .i64 (0)), .pv (.bool false), .pv (.int .i64 (0)), .pv (.str []), .pv (.int .i64 (0)), .pv (.int .i64 (0)), .pv (.int .i64 (0))] [(0, 1, .c (.pv (.int .i64 (0)))), (1, 1, .t 13)], none, 6⟩,
 ⟨(some 15), .eqs false [0, 1, 0, 2, 0, 0, 0] (.t 11) (.t 14), none, 15⟩,
 ⟨(some 16), .mv (.t 15), none, 31⟩,
 ⟨(some 17), .faddr (.t 1) 0, (some (16, false)), 63⟩,
 ⟨(some 18), .load false 1 (.t 17), (some (16, false)), 127⟩,
 ⟨(some 19), .bin .eql (.t 18) (.c (.pv (.int .i64 (6)))), (some (16, false)), 255⟩,
 ⟨(some 20), .pick (.t 16) (.c (.pv (.bool true))) (.t 19), none, 511⟩] false)
 (.cond (.t 20)
 (.seq (.reg [⟨(some 21), .build [.pv (.int .i64 (0)), .pv (.bool false), .pv (.int .i64 (0)), .pv (.str []), .pv (.int .i64 (0)), .pv (.int .i64 (0)), .pv (.int .i64 (0))] [], none, 0⟩,
 ⟨none, .store 7 (.t 2) (.t 21), none, 1⟩,
 ⟨(some 3), .mv (.c (.pv (.int .i64 (22)))), none, 3⟩] false)
 (.ret))
 (.skip)))
 (.seq (.seq (.reg [⟨(some 22), .faddr (.t 1) 0, none, 0⟩,
 ⟨(some 23), .load false 1 (.t 22), none, 1⟩,
 ⟨(some 24), .bin .eql (.t 23) (.c (.pv (.int .i64 (4)))), none, 3⟩,
 ⟨(some 25), .mv (.t 24), none, 7⟩,
 ⟨(some 26), .faddr (.t 1) 2, (some (25, true)), 15⟩,
 ⟨(some 27), .load false 1 (.t 26), (some (25, true)), 31⟩,
 ⟨(some 28), .bin .rem (.t 27) (.c (.pv (.int .i64 (65536)))), (some (25, true)), 63⟩,
 ⟨(some 29), .bin .eql (.t 28) (.c (.pv (.int .i64 (0)))), (some (25, true)), 127⟩,
 ⟨(some 30), .pick (.t 25) (.t 29) (.c (.pv (.bool false))), none, 255⟩] false)
 (.cond (.t 30)
 (.seq (.reg [⟨(some 31), .load true 7 (.t 1), none, 0⟩,
 ⟨(some 32), .call (.f n_object_ToInt) [.t 31], none, 1⟩,
 ⟨(some 33), .extract (.t 32) 0, none, 3⟩,
 ⟨(some 34), .extract (.t 32) 1, none, 3⟩,
 ⟨none, .store 7 (.t 2) (.t 33), none, 15⟩,
 ⟨(some 3), .mv (.t 34), none, 31⟩] false)
 (.ret))
 (.skip)))
 (.seq (.reg [⟨(some 35), .faddr (.t 1) 1, none, 0⟩,
 ⟨none, .store 1 (.t 35) (.c (.pv (.bool false))), none, 1⟩] false)
 (.seq (.reg [⟨(some 36), .load true 7 (.t 1), none, 0⟩,
 ⟨none, .store 7 (.t 2) (.t 36), none, 1⟩,
 ⟨(some 3), .mv (.c (.pv (.int .i64 (0)))), none, 3⟩] false)
 (.ret))))))⟩
def c_object_Name : RFn := ⟨2, 11, [.cell 4 true 7, .tmp 5],
 .seq (.reg [⟨(some 3), .box 1 (.t 1), none, 0⟩,
 ⟨(some 4), .alloc [.pv (.int .i64 (0)), .pv (.bool false), .pv (.int .i64 (0)), .pv (.str []), .pv (.int .i64 (0)), .pv (.int .i64 (0)), .pv (.int .i64 (0))], none, 0⟩,
 ⟨(some 5), .mv (.c (.pv (.int .i64 (0)))), none, 0⟩] false)
 (.seq (.reg [⟨(some 6), .mv (.t 0), none, 0⟩,
 ⟨(some 7), .mkf (.func n_object_Name_1) [] [.t 3], none, 0⟩,
 ⟨(some 8), .call (.f n_object_made_string) [.t 6, .t 7], none, 3⟩,
 ⟨(some 9), .extract (.t 8) 0, none, 7⟩,
 ⟨(some 10), .extract (.t 8) 1, none, 7⟩,
 ⟨none, .store 7 (.t 4) (.t 9), none, 31⟩,
 ⟨(some 5), .mv (.t 10), none, 63⟩] false)
 (.ret))⟩
def c_slices_Index_Obj : RFn := ⟨2, 19, [.tmp 4],
 .seq (.reg [⟨(some 3), .box 7 (.t 1), none, 0⟩,
 ⟨(some 4), .mv (.c (.pv (.int .i64 (0)))), none, 0⟩] false)
 (.seq (.seq (.reg [⟨(some 6), .mv (.t 0), none, 0⟩,
 ⟨(some 7), .slen (.t 6), none, 1⟩,
 ⟨(some 8), .mv (.c (.pv (.int .i64 (0)))), none, 0⟩] false)
 (.block 0
 (.loop [0, 3, 7, 8]
 (.seq (.reg [⟨(some 9), .bin .lss (.t 8) (.t 7), none, 0⟩] false)
 (.seq (.cond (.t 9)
 (.skip)
 (.exit 0))
 (.seq (.block 1
 (.seq (.reg [⟨(some 10), .mv (.t 8), none, 0⟩,
 ⟨(some 5), .mv (.t 10), none, 1⟩] false)
 (.seq (.reg [⟨(some 11), .load true 7 (.t 3), none, 0⟩,
 ⟨(some 12), .mv (.t 0), none, 0⟩,
 ⟨(some 13), .mv (.t 5), none, 0⟩,
 ⟨(some 14), .iaddr 7 (.t 12) (.t 13), none, 6⟩,
 ⟨(some 15), .load true 7 (.t 14), none, 14⟩,
 ⟨(some 16), .eqs false [0, 1, 0, 2, 0, 0, 0] (.t 11) (.t 15), none, 31⟩] true)
 (.cond (.t 16)
 (.seq (.reg [⟨(some 17), .mv (.t 5), none, 0⟩,
 ⟨(some 4), .mv (.t 17), none, 1⟩] false)
 (.ret))
 (.skip)))))
 (.reg [⟨(some 18), .bin .add (.t 8) (.c (.pv (.int .i64 (1)))), none, 0⟩,
 ⟨(some 8), .mv (.t 18), none, 1⟩] false)))))))
 (.seq (.reg [⟨(some 4), .mv (.c (.pv (.int .i64 (-1)))), none, 0⟩] false)
 (.ret)))⟩
def c_ref11_pick : RFn := ⟨3, 36, [.tmp 6],
 .seq (.reg [⟨(some 6), .mv (.c (.pv (.int .i64 (0)))), none, 0⟩] false)
 (.seq (.reg [⟨(some 7), .mv (.c (.emp 1)), none, 0⟩] false)
 (.seq (.seq (.reg [⟨(some 8), .mv (.c (.pv (.int .i64 (0)))), none, 0⟩] false)
 (.block 0
 (.loop [0, 1, 2, 7, 8]
 (.seq (.seq (.reg [⟨(some 9), .mv (.t 8), none, 0⟩,
 ⟨(some 10), .mv (.t 0), none, 0⟩,
 ⟨(some 11), .slen (.t 10), none, 2⟩,
 ⟨(some 12), .bin .lss (.t 9) (.t 11), none, 7⟩] false)
 (.cond (.t 12)
 (.skip)
 (.exit 0)))
 (.seq (.block 1
 (.seq (.reg [⟨(some 15), .mv (.t 0), none, 0⟩,
 ⟨(some 16), .mv (.t 8), none, 0⟩,
 ⟨(some 17), .iaddr 7 (.t 15) (.t 16), none, 3⟩,
 ⟨(some 18), .faddr (.t 17) 0, none, 7⟩,
 ⟨(some 19), .load false 1 (.t 18), none, 15⟩,
 ⟨(some 20), .mv (.t 1), none, 0⟩,
 ⟨(some 21), .bin .eql (.t 19) (.t 20), none, 63⟩] false)
 (.cond (.t 21)
 (.reg [⟨(some 22), .mv (.t 7), none, 0⟩,
 ⟨(some 23), .mv (.t 8), none, 0⟩,
 ⟨(some 24), .bsl 1 1 [.pv (.int .i64 (0))] [(0, .t 23)], none, 2⟩,
 ⟨(some 25), .append 1 8 (.t 22) (.t 24), none, 7⟩,
 ⟨(some 7), .mv (.t 25), none, 15⟩] false)
 (.skip))))
 (.reg [⟨(some 13), .mv (.t 8), none, 0⟩,
 ⟨(some 14), .bin .add (.t 13) (.c (.pv (.int .i64 (1)))), none, 1⟩,
 ⟨(some 8), .mv (.t 14), none, 3⟩] false))))))
 (.seq (.seq (.reg [⟨(some 26), .mv (.t 7), none, 0⟩,
 ⟨(some 27), .slen (.t 26), none, 1⟩,
 ⟨(some 28), .bin .eql (.t 27) (.c (.pv (.int .i64 (0)))), none, 3⟩] false)
 (.cond (.t 28)
 (.seq (.reg [⟨(some 6), .mv (.c (.pv (.int .i64 (-1)))), none, 0⟩] false)
 (.ret))
 (.skip)))
 (.seq (.reg [⟨(some 29), .mv (.t 7), none, 0⟩,
 ⟨(some 30), .mv (.t 2), none, 0⟩,
 ⟨(some 31), .mv (.t 7), none, 0⟩,
 ⟨(some 32), .slen (.t 31), none, 4⟩,
 ⟨(some 33), .bin .rem (.t 30) (.t 32), none, 14⟩,
 ⟨(some 34), .iaddr 1 (.t 29) (.t 33), none, 31⟩,
 ⟨(some 35), .load false 1 (.t 34), none, 63⟩,
 ⟨(some 6), .mv (.t 35), none, 127⟩] false)
 (.ret)))))⟩
def c_slices_Contains_Obj : RFn := ⟨2, 9, [.tmp 4],
 .seq (.reg [⟨(some 3), .box 7 (.t 1), none, 0⟩,
 ⟨(some 4), .mv (.c (.pv (.bool false))), none, 0⟩] false)
 (.seq (.reg [⟨(some 5), .mv (.t 0), none, 0⟩,
 ⟨(some 6), .load true 7 (.t 3), none, 0⟩,
 ⟨(some 7), .call (.f n_slices_Index_Obj) [.t 5, .t 6], none, 3⟩,
 ⟨(some 8), .bin .geq (.t 7) (.c (.pv (.int .i64 (0)))), none, 7⟩,
 ⟨(some 4), .mv (.t 8), none, 15⟩] false)
 (.ret))⟩
def c_object_kinds : RFn := ⟨0, 15, [.cell 0 true 78],
 .seq (.reg [⟨(some 0), .alloc [.pv (.str []), .pv (.int .i64 (0)), .pv (.int .i64 (0)), .pv (.int .i64 (0)), .pv (.int .i64 (0)), .pv (.int .i64 (0)), .pv (.str []), .pv (.int .i64 (0)), .pv (.int .i64 (0)), .pv (.int .i64 (0)), .pv (.int .i64 (0)), .pv (.int .i64 (0)), .pv (.str []), .pv (.int .i64 (0)), .pv (.int .i64 (0)), .pv (.int .i64 (0)), .pv (.int .i64 (0)), .pv (.int .i64 (0)), .pv (.str []), .pv (.int .i64 (0)), .pv (.int .i64 (0)), .pv (.int .i64 (0)), .pv (.int .i64 (0)), .pv (.int .i64 (0)), .pv (.str []), .pv (.int .i64 (0)), .pv (.int .i64 (0)), .pv (.int .i64 (0)), .pv (.int .i64 (0)), .pv (.int .i64 (0)), .pv (.str []), .pv (.int .i64 (0)), .pv (.int .i64 (0)), .pv (.int .i64 (0)), .pv (.int .i64 (0)), .pv (.int .i64 (0)), .pv (.str []), .pv (.int .i64 (0)), .pv (.int .i64 (0)), .pv (.int .i64 (0)), .pv (.int .i64 (0)), .pv (.int .i64 (0)), .pv (.str []), .pv (.int .i64 (0)), .pv (.int .i64 (0)), .pv (.int .i64 (0)), .pv (.int .i64 (0)), .pv (.int .i64 (0)), .pv (.str []), .pv (.int .i64 (0)), .pv (.int .i64 (0)), .pv (.int .i64 (0)), .pv (.int .i64 (0)), .pv (.int .i64 (0)), .pv (.str []), .pv (.int .i64 (0)), .pv (.int .i64 (0)), .pv (.int .i64 (0)), .pv (.int .i64 (0)), .pv (.int .i64 (0)), .pv (.str []), .pv (.int .i64 (0)), .pv (.int .i64 (0)), .pv (.int .i64 (0)), .pv (.int .i64 (0)), .pv (.int .i64 (0)), .pv (.str []), .pv (.int .i64 (0)), .pv (.int .i64 (0)), .pv (.int .i64 (0)), .pv (.int .i64 (0)), .pv (.int .i64 (0)), .pv (.str []), .pv (.int .i64 (0)), .pv (.int .i64 (0)), .pv (.int .i64 (0)), .pv (.int .i64 (0)), .pv (.int .i64 (0))], none, 0⟩] false)
 (.seq (.reg [⟨(some 1), .build [.pv (.str []), .pv (.int .i64 (0)), .pv (.int .i64 (0)), .pv (.int .i64 (0)), .pv (.int .i64 (0)), .pv (.int .i64 (0))] [(0, 1, .c (.pv (.str [110, 117, 108, 108, 116, 121, 112, 101])))], none, 0⟩,
 ⟨(some 2), .build [.pv (.str []), .pv (.int .i64 (0)), .pv (.int .i64 (0)), .pv (.int .i64 (0)), .pv (.int .i64 (0)), .pv (.int .i64 (0))] [(0, 1, .c (.pv (.str [109, 97, 114, 107, 116, 121, 112, 101])))], none, 0⟩,
 ⟨(some 3), .build [.pv (.str []), .pv (.int .i64 (0)), .pv (.int .i64 (0)), .pv (.int .i64 (0)), .pv (.int .i64 (0)), .pv (.int .i64 (0))] [(0, 1, .c (.pv (.str [98, 111, 111, 108, 101, 97, 110, 116, 121, 112, 101]))), (2, 1, .c (.pv (.int .i64 (1))))], none, 0⟩,
 ⟨(some 4), .build [.pv (.str []), .pv (.int .i64 (0)), .pv (.int .i64 (0)), .pv (.int .i64 (0)), .pv (.int .i64 (0)), .pv (.int .i64 (0))] [(0, 1, .c (.pv (.str [105, 110, 116, 101, 103, 101, 114, 116, 121, 112, 101]))), (1, 1, .c (.pv (.int .i64 (-2147483648)))), (2, 1, .c (.pv (.int .i64 (2147483647))))], none, 0⟩,
 ⟨(some 5), .build [.pv (.str []), .pv (.int .i64 (0)), .pv (.int .i64 (0)), .pv (.int .i64 (0)), .pv (.int .i64 (0)), .pv (.int .i64 (0))] [(0, 1, .c (.pv (.str [114, 101, 97, 108, 116, 121, 112, 101]))), (1, 1, .c (.pv (.int .i64 (-2147483648)))), (2, 1, .c (.pv (.int .i64 (2147483648))))], none, 0⟩,
 ⟨(some 6), .build [.pv (.str []), .pv (.int .i64 (0)), .pv (.int .i64 (0)), .pv (.int .i64 (0)), .pv (.int .i64 (0)), .pv (.int .i64 (0))] [(0, 1, .c (.pv (.str [110, 97, 109, 101, 116, 121, 112, 101]))), (4, 1, .c (.pv (.int .i64 (100))))], none, 0⟩,
 ⟨(some 7), .build [.pv (.str []), .pv (.int .i64 (0)), .pv (.int .i64 (0)), .pv (.int .i64 (0)), .pv (.int .i64 (0)), .pv (.int .i64 (0))] [(0, 1, .c (.pv (.str [115, 116, 114, 105, 110, 103, 116, 121, 112, 101]))), (5, 1, .c (.pv (.int .i64 (1))))], none, 0⟩,
 ⟨(some 8), .build [.pv (.str []), .pv (.int .i64 (0)), .pv (.int .i64 (0)), .pv (.int .i64 (0)), .pv (.int .i64 (0)), .pv (.int .i64 (0))] [(0, 1, .c (.pv (.str [97, 114, 114, 97, 121, 116, 121, 112, 101]))), (5, 1, .c (.pv (.int .i64 (2))))], none, 0⟩,
 ⟨(some 9), .build [.pv (.str []), .pv (.int .i64 (0)), .pv (.int .i64 (0)), .pv (.int .i64 (0)), .pv (.int .i64 (0)), .pv (.int .i64 (0))] [(0, 1, .c (.pv (.str [112, 97, 99, 107, 101, 100, 97, 114, 114, 97, 121, 116, 121, 112, 101]))), (5, 1, .c (.pv (.int .i64 (2))))], none, 0⟩,
 ⟨(some 10), .build [.pv (.str []), .pv (.int .i64 (0)), .pv (.int .i64 (0)), .pv (.int .i64 (0)), .pv (.int .i64 (0)), .pv (.int .i64 (0))] [(0, 1, .c (.pv (.str [100, 105, 99, 116, 116, 121, 112, 101]))), (5, 1, .c (.pv (.int .i64 (3))))], none, 0⟩,
 ⟨(some 11), .build [.pv (.str []), .pv (.int .i64 (0)), .pv (.int .i64 (0)), .pv (.int .i64 (0)), .pv (.int .i64 (0)), .pv (.int .i64 (0))] [(0, 1, .c (.pv (.str [111, 112, 101, 114, 97, 116, 111, 114, 116, 121, 112, 101]))), (3, 1, .c (.pv (.int .i64 (1)))), (4, 1, .c (.pv (.int .i64 (100))))], none, 0⟩,
 ⟨(some 12), .build [.pv (.str []), .pv (.int .i64 (0)), .pv (.int .i64 (0)), .pv (.int .i64 (0)), .pv (.int .i64 (0)), .pv (.int .i64 (0))] [(0, 1, .c (.pv (.str [102, 105, 108, 101, 116, 121, 112, 101]))), (5, 1, .c (.pv (.int .i64 (3))))], none, 0⟩,
 ⟨(some 13), .build [.pv (.str []), .pv (.int .i64 (0)), .pv (.int .i64 (0)), .pv (.int .i64 (0)), .pv (.int .i64 (0)), .pv (.int .i64 (0))] [(0, 1, .c (.pv (.str [115, 97, 118, 101, 116, 121, 112, 101]))), (1, 1, .c (.pv (.int .i64 (1)))), (2, 1, .c (.pv (.int .i64 (9223372036854775807))))], none, 0⟩,
 ⟨(some 14), .build [.pv (.str []), .pv (.int .i64 (0)), .pv (.int .i64 (0)), .pv (.int .i64 (0)), .pv (.int .i64 (0)), .pv (.int .i64 (0)), .pv (.str []), .pv (.int .i64 (0)), .pv (.int .i64 (0)), .pv (.int .i64 (0)), .pv (.int .i64 (0)), .pv (.int .i64 (0)), .pv (.str []), .pv (.int .i64 (0)), .pv (.int .i64 (0)), .pv (.int .i64 (0)), .pv (.int .i64 (0)), .pv (.int .i64 (0)), .pv (.str []), .pv (.int .i64 (0)), .pv (.int .i64 (0)), .pv (.int .i64 (0)), .pv (.int .i64 (0)), .pv (.int .i64 (0)), .pv (.str []), .pv (.int .i64 (0)), .pv (.int .i64 (0)), .pv (.int .i64 (0)), .pv (.int .i64 (0)), .pv (.int .i64 (0)), .pv (.str []), .pv (.int .i64 (0)), .pv (.int .i64 (0)), .pv (.int .i64 (0)), .pv (.int .i64 (0)), .pv (.int .i64 (0)), .pv (.str []), .pv (.int .i64 (0)), .pv (.int .i64 (0)), .pv (.int .i64 (0)), .pv (.int .i64 (0)), .pv (.int .i64 (0)), .pv (.str []), .pv (.int .i64 (0)), .pv (.int .i64 (0)), .pv (.int .i64 (0)), .pv (.int .i64 (0)), .pv (.int .i64 (0)), .pv (.str []), .pv (.int .i64 (0)), .pv (.int .i64 (0)), .pv (.int .i64 (0)), .pv (.int .i64 (0)), .pv (.int .i64 (0)), .pv (.str []), .pv (.int .i64 (0)), .pv (.int .i64 (0)), .pv (.int .i64 (0)), .pv (.int .i64 (0)), .pv (.int .i64 (0)), .pv (.str []), .pv (.int .i64 (0)), .pv (.int .i64 (0)), .pv (.int .i64 (0)), .pv (.int .i64 (0)), .pv (.int .i64 (0)), .pv (.str []), .pv (.int .i64 (0)), .pv (.int .i64 (0)), .pv (.int .i64 (0)), .pv (.int .i64 (0)), .pv (.int .i64 (0)), .pv (.str []), .pv (.int .i64 (0)), .pv (.int .i64 (0)), .pv (.int .i64 (0)), .pv (.int .i64 (0)), .pv (.int .i64 (0))] [(0, 6, .t 1), (6, 6, .t 2), (12, 6, .t 3), (18, 6, .t 4), (24, 6, .t 5), (30, 6, .t 6), (36, 6, .t 7), (42, 6, .t 8), (48, 6, .t 9), (54, 6, .t 10), (60, 6, .t 11), (66, 6, .t 12), (72, 6, .t 13)], none, 8191⟩,
 ⟨none, .store 78 (.t 0) (.t 14), none, 16383⟩] false)
 (.ret))⟩
def c_object_kind_number : RFn := ⟨2, 17, [.tmp 4],
 .seq (.reg [⟨(some 2), .box 6 (.t 0), none, 0⟩,
 ⟨(some 3), .box 7 (.t 1), none, 0⟩,
 ⟨(some 4), .mv (.c (.pv (.bool false))), none, 0⟩] false)
 (.seq (.reg [⟨(some 5), .faddr (.t 3) 2, none, 0⟩,
 ⟨(some 6), .load false 1 (.t 5), none, 1⟩,
 ⟨(some 7), .faddr (.t 2) 1, none, 0⟩,
 ⟨(some 8), .load false 1 (.t 7), none, 4⟩,
 ⟨(some 9), .bin .geq (.t 6) (.t 8), none, 15⟩,
 ⟨(some 10), .mv (.t 9), none, 31⟩,
 ⟨(some 11), .faddr (.t 3) 2, (some (10, true)), 63⟩,
 ⟨(some 12), .load false 1 (.t 11), (some (10, true)), 127⟩,
 ⟨(some 13), .faddr (.t 2) 2, (some (10, true)), 63⟩,
 ⟨(some 14), .load false 1 (.t 13), (some (10, true)), 319⟩,
 ⟨(some 15), .bin .leq (.t 12) (.t 14), (some (10, true)), 1023⟩,
 ⟨(some 16), .pick (.t 10) (.t 15) (.c (.pv (.bool false))), none, 2047⟩,
 ⟨(some 4), .mv (.t 16), none, 4095⟩] false)
 (.ret))⟩
def c_object_kind_named : RFn := ⟨2, 19, [.tmp 4],
 .seq (.reg [⟨(some 2), .box 6 (.t 0), none, 0⟩,
 ⟨(some 3), .box 7 (.t 1), none, 0⟩,
 ⟨(some 4), .mv (.c (.pv (.bool false))), none, 0⟩] false)
 (.seq (.reg [⟨(some 5), .faddr (.t 3) 3, none, 0⟩,
 ⟨(some 6), .load false 1 (.t 5), none, 1⟩,
 ⟨(some 7), .strlen (.t 6), none, 3⟩,
 ⟨(some 8), .faddr (.t 2) 3, none, 0⟩,
 ⟨(some 9), .load false 1 (.t 8), none, 8⟩,
 ⟨(some 10), .bin .geq (.t 7) (.t 9), none, 31⟩,
 ⟨(some 11), .mv (.t 10), none, 63⟩,
 ⟨(some 12), .faddr (.t 3) 3, (some (11, true)), 127⟩,
 ⟨(some 13), .load false 1 (.t 12), (some (11, true)), 255⟩,
 ⟨(some 14), .strlen (.t 13), (some (11, true)), 511⟩,
 ⟨(some 15), .faddr (.t 2) 4, (some (11, true)), 127⟩,
 ⟨(some 16), .load false 1 (.t 15), (some (11, true)), 1151⟩,
 ⟨(some 17), .bin .leq (.t 14) (.t 16), (some (11, true)), 4095⟩,
 ⟨(some 18), .pick (.t 11) (.t 17) (.c (.pv (.bool false))), none, 8191⟩,
 ⟨(some 4), .mv (.t 18), none, 16383⟩] false)
 (.ret))⟩
def c_object_kind_referring : RFn := ⟨2, 57, [.tmp 4],
 .seq (.reg [⟨(some 2), .box 6 (.t 0), none, 0⟩,
 ⟨(some 3), .box 7 (.t 1), none, 0⟩,
 ⟨(some 4), .mv (.c (.pv (.bool false))), none, 0⟩] false)
 (.seq (.seq (.reg [⟨(some 6), .faddr (.t 2) 5, none, 0⟩,
 ⟨(some 7), .load false 1 (.t 6), none, 1⟩,
 ⟨(some 8), .bin .eql (.t 7) (.c (.pv (.int .i64 (0)))), none, 3⟩] false)
 (.cond (.t 8)
 (.seq (.reg [⟨(some 9), .faddr (.t 3) 4, none, 0⟩,
 ⟨(some 10), .load false 1 (.t 9), none, 1⟩,
 ⟨(some 11), .bin .eql (.t 10) (.c (.pv (.int .i64 (0)))), none, 3⟩,
 ⟨(some 12), .mv (.t 11), none, 7⟩,
 ⟨(some 13), .faddr (.t 3) 5, (some (12, true)), 15⟩,
 ⟨(some 14), .load false 1 (.t 13), (some (12, true)), 31⟩,
 ⟨(some 15), .bin .eql (.t 14) (.c (.pv (.int .i64 (0)))), (some (12, true)), 63⟩,
 ⟨(some 16), .pick (.t 12) (.t 15) (.c (.pv (.bool false))), none, 127⟩,
 ⟨(some 17), .mv (.t 16), none, 255⟩,
 ⟨(some 18), .faddr (.t 3) 6, (some (17, true)), 511⟩,
 ⟨(some 19), .load false 1 (.t 18), (some (17, true)), 1023⟩,
 ⟨(some 20), .bin .eql (.t 19) (.c (.pv (.int .i64 (0)))), (some (17, true)), 2047⟩,
 ⟨(some 21), .pick (.t 17) (.t 20) (.c (.pv (.bool false))), none, 4095⟩,
 ⟨(some 4), .mv (.t 21), none, 8191⟩] false)
 (.ret))
 (.skip)))
 (.seq (.reg [⟨(some 22), .load true 6 (.t 2), none, 0⟩,
 ⟨(some 23), .call (.f n_object_kind_longest) [.t 22], none, 1⟩,
 ⟨(some 5), .mv (.t 23), none, 3⟩] false)
 (.seq (.reg [⟨(some 24), .faddr (.t 3) 4, none, 0⟩,
 ⟨(some 25), .load false 1 (.t 24), none, 1⟩,
 ⟨(some 26), .bin .geq (.t 25) (.c (.pv (.int .i64 (0)))), none, 3⟩,
 ⟨(some 27), .mv (.t 26), none, 7⟩,
 ⟨(some 28), .faddr (.t 3) 4, (some (27, true)), 15⟩,
 ⟨(some 29), .load false 1 (.t 28), (some (27, true)), 31⟩,
 ⟨(some 30), .bin .leq (.t 29) (.c (.pv (.int .i64 (20000)))), (some (27, true)), 63⟩,
 ⟨(some 31), .pick (.t 27) (.t 30) (.c (.pv (.bool false))), none, 127⟩,
 ⟨(some 32), .mv (.t 31), none, 255⟩,
 ⟨(some 33), .faddr (.t 3) 5, (some (32, true)), 511⟩,
 ⟨(some 34), .load false 1 (.t 33), (some (32, true)), 1023⟩,
 ⟨(some 35), .bin .geq (.t 34) (.c (.pv (.int .i64 (0)))), (some (32, true)), 2047⟩,
 ⟨(some 36), .pick (.t 32) (.t 35) (.c (.pv (.bool false))), none, 4095⟩,
 ⟨(some 37), .mv (.t 36), none, 8191⟩,
 ⟨(some 38), .faddr (.t 3) 6, (some (37, true)), 16383⟩,
 ⟨(some 39), .load false 1 (.t 38), (some (37, true)), 32767⟩,
 ⟨(some 40), .bin .geq (.t 39) (.c (.pv (.int .i64 (0)))), (some (37, true)), 65535⟩,
 ⟨(some 41), .pick (.t 37) (.t 40) (.c (.pv (.bool false))), none, 131071⟩,
 ⟨(some 42), .mv (.t 41), none, 262143⟩,
 ⟨(some 43), .faddr (.t 3) 5, (some (42, true)), 524287⟩,
 ⟨(some 44), .load false 1 (.t 43), (some (42, true)), 1048575⟩,
 ⟨(some 45), .mv (.t 5), (some (42, true)), 524287⟩,
 ⟨(some 46), .bin .leq (.t 44) (.t 45), (some (42, true)), 4194303⟩,
 ⟨(some 47), .pick (.t 42) (.t 46) (.c (.pv (.bool false))), none, 8388607⟩,
 ⟨(some 48), .mv (.t 47), none, 16777215⟩,
 ⟨(some 49), .faddr (.t 3) 6, (some (48, true)), 33554431⟩,
 ⟨(some 50), .load false 1 (.t 49), (some (48, true)), 67108863⟩,
 ⟨(some 51), .mv (.t 5), (some (48, true)), 33554431⟩,
 ⟨(some 52), .faddr (.t 3) 5, (some (48, true)), 33554431⟩,
 ⟨(some 53), .load false 1 (.t 52), (some (48, true)), 301989887⟩,
 ⟨(some 54), .bin .sub (.t 51) (.t 53), (some (48, true)), 973078527⟩,
 ⟨(some 55), .bin .leq (.t 50) (.t 54), (some (48, true)), 2147483647⟩,
 ⟨(some 56), .pick (.t 48) (.t 55) (.c (.pv (.bool false))), none, 4294967295⟩,
 ⟨(some 4), .mv (.t 56), none, 8589934591⟩] false)
 (.ret))))⟩
def c_object_Value : RFn := ⟨1, 16, [.tmp 2, .tmp 3],
 .seq (.reg [⟨(some 1), .box 7 (.t 0), none, 0⟩,
 ⟨(some 2), .mv (.c (.pv (.int .i64 (0)))), none, 0⟩,
 ⟨(some 3), .mv (.c (.pv (.int .i64 (0)))), none, 2⟩] false)
 (.seq (.reg [⟨(some 7), .load true 7 (.t 1), none, 0⟩,
 ⟨(some 8), .call (.f n_object_numberOf) [.t 7], none, 1⟩,
 ⟨(some 6), .mv (.t 8), none, 3⟩,
 ⟨(some 9), .extract (.t 6) 0, none, 7⟩,
 ⟨(some 10), .extract (.t 6) 1, none, 7⟩,
 ⟨(some 4), .alloc [.pv (.int .i64 (0)), .pv (.bool false), .pv (.int .i64 (0)), .pv (.str []), .pv (.int .i64 (0)), .pv (.int .i64 (0)), .pv (.int .i64 (0))], none, 0⟩,
 ⟨none, .store 7 (.t 4) (.t 9), none, 47⟩,
 ⟨(some 5), .mv (.t 10), none, 127⟩] false)
 (.seq (.seq (.reg [⟨(some 11), .mv (.t 5), none, 0⟩,
 ⟨(some 12), .bin .neq (.t 11) (.c (.pv (.int .i64 (0)))), none, 1⟩] false)
 (.cond (.t 12)
 (.seq (.reg [⟨(some 13), .mv (.t 5), none, 0⟩,
 ⟨(some 2), .mv (.c (.pv (.int .i64 (0)))), none, 0⟩,
 ⟨(some 3), .mv (.t 13), none, 3⟩] false)
 (.ret))
 (.skip)))
 (.seq (.reg [⟨(some 14), .load true 7 (.t 4), none, 0⟩,
 ⟨(some 15), .call (.f n_object_number_value) [.t 14], none, 1⟩,
 ⟨(some 2), .mv (.t 15), none, 3⟩,
 ⟨(some 3), .mv (.c (.pv (.int .i64 (0)))), none, 7⟩] false)
 (.ret))))⟩
def c_heap_objects_1 : RFn := ⟨2, 29, [],
 .seq (.reg [⟨(some 7), .faddr (.t 1) 2, none, 0⟩,
 ⟨(some 8), .load false 1 (.t 7), none, 1⟩,
 ⟨(some 9), .faddr (.t 1) 3, none, 0⟩,
 ⟨(some 10), .load false 1 (.t 9), none, 4⟩,
 ⟨(some 11), .faddr (.t 1) 4, none, 0⟩,
 ⟨(some 12), .load false 1 (.t 11), none, 16⟩,
 ⟨(some 13), .build [.emp 7, .emp 7, .emp 7] [(0, 1, .t 8), (1, 1, .t 10), (2, 1, .t 12)], none, 63⟩,
 ⟨(some 14), .mv (.c (.pv (.int .i64 (0)))), none, 0⟩] false)
 (.block 0
 (.loop [0, 13, 14]
 (.seq (.reg [⟨(some 15), .bin .lss (.t 14) (.c (.pv (.int .i64 (3)))), none, 0⟩] false)
 (.seq (.cond (.t 15)
 (.skip)
 (.exit 0))
 (.seq (.block 1
 (.seq (.reg [⟨(some 16), .index false 3 1 (.t 13) (.t 14), none, 0⟩,
 ⟨(some 4), .mv (.t 16), none, 1⟩] false)
 (.seq (.reg [⟨(some 17), .mv (.t 4), none, 0⟩,
 ⟨(some 18), .slen (.t 17), none, 1⟩,
 ⟨(some 19), .mv (.c (.pv (.int .i64 (0)))), none, 0⟩] false)
 (.block 2
 (.loop [0, 13, 14, 17, 18, 19]
 (.seq (.reg [⟨(some 20), .bin .lss (.t 19) (.t 18), none, 0⟩] false)
 (.seq (.cond (.t 20)
 (.skip)
 (.exit 2))
 (.seq (.block 3
 (.seq (.reg [⟨(some 21), .iaddr 7 (.t 17) (.t 19), none, 0⟩,
 ⟨(some 22), .load true 7 (.t 21), none, 1⟩,
 ⟨(some 6), .alloc [.pv (.int .i64 (0)), .pv (.bool false), .pv (.int .i64 (0)), .pv (.str []), .pv (.int .i64 (0)), .pv (.int .i64 (0)), .pv (.int .i64 (0))], none, 0⟩,
 ⟨none, .store 7 (.t 6) (.t 22), none, 7⟩] false)
 (.seq (.reg [⟨(some 23), .mv (.t 0), none, 0⟩,
 ⟨(some 24), .load true 7 (.t 6), none, 0⟩,
 ⟨(some 25), .call (.t 23) [.t 24], none, 3⟩,
 ⟨(some 26), .not (.t 25), none, 7⟩] false)
 (.cond (.t 26)
 (.ret)
 (.skip)))))
 (.reg [⟨(some 27), .bin .add (.t 19) (.c (.pv (.int .i64 (1)))), none, 0⟩,
 ⟨(some 19), .mv (.t 27), none, 1⟩] false)))))))))
 (.reg [⟨(some 28), .bin .add (.t 14) (.c (.pv (.int .i64 (1)))), none, 0⟩,
 ⟨(some 14), .mv (.t 28), none, 1⟩] false))))))⟩
def c_slices_Contains_int : RFn := ⟨2, 9, [.tmp 4],
 .seq (.reg [⟨(some 4), .mv (.c (.pv (.bool false))), none, 0⟩] false)
 (.seq (.reg [⟨(some 5), .mv (.t 0), none, 0⟩,
 ⟨(some 6), .mv (.t 1), none, 0⟩,
 ⟨(some 7), .call (.f n_slices_Index_int) [.t 5, .t 6], none, 3⟩,
 ⟨(some 8), .bin .geq (.t 7) (.c (.pv (.int .i64 (0)))), none, 7⟩,
 ⟨(some 4), .mv (.t 8), none, 15⟩] false)
 (.ret))⟩
def c_object_ToInt : RFn := ⟨1, 20, [.cell 2 true 7, .tmp 3],
 .seq (.reg [⟨(some 1), .box 7 (.t 0), none, 0⟩,
 ⟨(some 2), .alloc [.pv (.int .i64 (0)), .pv (.bool false), .pv (.int .i64 (0)), .pv (.str []), .pv (.int .i64 (0)), .pv (.int .i64 (0)), .pv (.int .i64 (0))], none, 0⟩,
 ⟨(some 3), .mv (.c (.pv (.int .i64 (0)))), none, 0⟩] false)
 (.seq (.reg [⟨(some 7), .load true 7 (.t 1), none, 0⟩,
 ⟨(some 8), .call (.f n_object_Value) [.t 7], none, 1⟩,
 ⟨(some 6), .mv (.t 8), none, 3⟩,
 ⟨(some 9), .extract (.t 6) 0, none, 7⟩,
 ⟨(some 10), .extract (.t 6) 1, none, 7⟩,
 ⟨(some 4), .mv (.t 9), none, 15⟩,
 ⟨(some 5), .mv (.t 10), none, 63⟩] false)
 (.seq (.seq (.reg [⟨(some 11), .mv (.t 5), none, 0⟩,
 ⟨(some 12), .bin .neq (.t 11) (.c (.pv (.int .i64 (0)))), none, 1⟩] false)
 (.cond (.t 12)
 (.seq (.reg [⟨(some 13), .build [.pv (.int .i64 (0)), .pv (.bool false), .pv (.int .i64 (0)), .pv (.str []), .pv (.int .i64 (0)), .pv (.int .i64 (0)), .pv (.int .i64 (0))] [], none, 0⟩,
 ⟨(some 14), .mv (.t 5), none, 0⟩,
 ⟨none, .store 7 (.t 2) (.t 13), none, 1⟩,
 ⟨(some 3), .mv (.t 14), none, 7⟩] false)
 (.ret))
 (.skip)))
 (.seq (.reg [⟨(some 15), .mv (.t 4), none, 0⟩,
 ⟨(some 16), .bin .quo (.t 15) (.c (.pv (.int .i64 (65536)))), none, 1⟩,
 ⟨(some 17), .call (.f n_object_Int) [.t 16], none, 3⟩,
 ⟨(some 18), .extract (.t 17) 0, none, 7⟩,
 ⟨(some 19), .extract (.t 17) 1, none, 7⟩,
 ⟨none, .store 7 (.t 2) (.t 18), none, 31⟩,
 ⟨(some 3), .mv (.t 19), none, 63⟩] false)
 (.ret))))⟩
def c_object_made_string : RFn := ⟨2, 15, [.cell 4 true 7, .tmp 5],
 .seq (.reg [⟨(some 4), .alloc [.pv (.int .i64 (0)), .pv (.bool false), .pv (.int .i64 (0)), .pv (.str []), .pv (.int .i64 (0)), .pv (.int .i64 (0)), .pv (.int .i64 (0))], none, 0⟩,
 ⟨(some 5), .mv (.c (.pv (.int .i64 (0)))), none, 0⟩] false)
 (.seq (.reg [⟨(some 7), .mv (.t 1), none, 0⟩,
 ⟨(some 8), .mv (.t 0), none, 0⟩,
 ⟨(some 9), .call (.t 7) [.t 8], none, 3⟩,
 ⟨(some 6), .alloc [.pv (.int .i64 (0)), .pv (.bool false), .pv (.int .i64 (0)), .pv (.str []), .pv (.int .i64 (0)), .pv (.int .i64 (0)), .pv (.int .i64 (0))], none, 0⟩,
 ⟨none, .store 7 (.t 6) (.t 9), none, 15⟩] false)
 (.seq (.seq (.reg [⟨(some 10), .load true 7 (.t 6), none, 0⟩,
 ⟨(some 11), .call (.f n_object_Check) [.t 10], none, 1⟩,
 ⟨(some 12), .bin .neq (.t 11) (.c (.pv (.int .i64 (0)))), none, 3⟩] false)
 (.cond (.t 12)
 (.seq (.reg [⟨(some 13), .build [.pv (.int .i64 (0)), .pv (.bool false), .pv (.int .i64 (0)), .pv (.str []), .pv (.int .i64 (0)), .pv (.int .i64 (0)), .pv (.int .i64 (0))] [], none, 0⟩,
 ⟨none, .store 7 (.t 4) (.t 13), none, 1⟩,
 ⟨(some 5), .mv (.c (.pv (.int .i64 (2)))), none, 3⟩] false)
 (.ret))
 (.skip)))
 (.seq (.reg [⟨(some 14), .load true 7 (.t 6), none, 0⟩,
 ⟨none, .store 7 (.t 4) (.t 14), none, 1⟩,
 ⟨(some 5), .mv (.c (.pv (.int .i64 (0)))), none, 3⟩] false)
 (.ret))))⟩
def c_object_Name_1 : RFn := ⟨2, 7, [.cell 3 true 7],
 .seq (.reg [⟨(some 3), .alloc [.pv (.int .i64 (0)), .pv (.bool false), .pv (.int .i64 (0)), .pv (.str []), .pv (.int .i64 (0)), .pv (.int .i64 (0)), .pv (.int .i64 (0))], none, 0⟩] false)
 (.seq (.reg [⟨(some 4), .mv (.t 0), none, 0⟩,
 ⟨(some 5), .load false 1 (.t 1), none, 0⟩,
 ⟨(some 6), .build [.pv (.int .i64 (0)), .pv (.bool false), .pv (.int .i64 (0)), .pv (.str []), .pv (.int .i64 (0)), .pv (.int .i64 (0)), .pv (.int .i64 (0))] [(0, 1, .c (.pv (.int .i64 (5)))), (3, 1, .t 4), (1, 1, .t 5)], none, 3⟩,
 ⟨none, .store 7 (.t 3) (.t 6), none, 7⟩] false)
 (.ret))⟩
def c_object_kind_longest : RFn := ⟨1, 7, [.tmp 2],
 .seq (.reg [⟨(some 1), .box 6 (.t 0), none, 0⟩,
 ⟨(some 2), .mv (.c (.pv (.int .i64 (0)))), none, 0⟩] false)
 (.seq (.reg [⟨(some 3), .build [.pv (.int .i64 (0)), .pv (.int .i64 (0)), .pv (.int .i64 (0)), .pv (.int .i64 (0))] [(0, 1, .c (.pv (.int .i64 (0)))), (1, 1, .c (.pv (.int .i64 (1000)))), (2, 1, .c (.pv (.int .i64 (1000)))), (3, 1, .c (.pv (.int .i64 (0))))], none, 0⟩,
 ⟨(some 4), .faddr (.t 1) 5, none, 0⟩,
 ⟨(some 5), .load false 1 (.t 4), none, 2⟩,
 ⟨(some 6), .index false 4 1 (.t 3) (.t 5), none, 7⟩,
 ⟨(some 2), .mv (.t 6), none, 15⟩] false)
 (.ret))⟩
def c_object_numberOf : RFn := ⟨1, 22, [.cell 2 true 7, .tmp 3],
 .seq (.reg [⟨(some 1), .box 7 (.t 0), none, 0⟩,
 ⟨(some 2), .alloc [.pv (.int .i64 (0)), .pv (.bool false), .pv (.int .i64 (0)), .pv (.str []), .pv (.int .i64 (0)), .pv (.int .i64 (0)), .pv (.int .i64 (0))], none, 0⟩,
 ⟨(some 3), .mv (.c (.pv (.int .i64 (0)))), none, 0⟩] false)
 (.seq (.seq (.reg [⟨(some 5), .load true 7 (.t 1), none, 0⟩,
 ⟨(some 6), .call (.f n_object_Check) [.t 5], none, 1⟩,
 ⟨(some 4), .mv (.t 6), none, 3⟩] false)
 (.seq (.reg [⟨(some 7), .mv (.t 4), none, 0⟩,
 ⟨(some 8), .bin .neq (.t 7) (.c (.pv (.int .i64 (0)))), none, 1⟩] false)
 (.cond (.t 8)
 (.seq (.reg [⟨(some 9), .build [.pv (.int .i64 (0)), .pv (.bool false), .pv (.int .i64 (0)), .pv (.str []), .pv (.int .i64 (0)), .pv (.int .i64 (0)), .pv (.int .i64 (0))] [], none, 0⟩,
 ⟨(some 10), .mv (.t 4), none, 0⟩,
 ⟨none, .store 7 (.t 2) (.t 9), none, 1⟩,
 ⟨(some 3), .mv (.t 10), none, 7⟩] false)
 (.ret))
 (.skip))))
 (.seq (.seq (.reg [⟨(some 11), .faddr (.t 1) 0, none, 0⟩,
 ⟨(some 12), .load false 1 (.t 11), none, 1⟩,
 ⟨(some 13), .bin .neq (.t 12) (.c (.pv (.int .i64 (3)))), none, 3⟩,
 ⟨(some 14), .mv (.t 13), none, 7⟩,
 ⟨(some 15), .faddr (.t 1) 0, (some (14, true)), 15⟩,
 ⟨(some 16), .load false 1 (.t 15), (some (14, true)), 31⟩,
 ⟨(some 17), .bin .neq (.t 16) (.c (.pv (.int .i64 (4)))), (some (14, true)), 63⟩,
 ⟨(some 18), .pick (.t 14) (.t 17) (.c (.pv (.bool false))), none, 127⟩] false)
 (.cond (.t 18)
 (.seq (.reg [⟨(some 19), .build [.pv (.int .i64 (0)), .pv (.bool false), .pv (.int .i64 (0)), .pv (.str []), .pv (.int .i64 (0)), .pv (.int .i64 (0)), .pv (.int .i64 (0))] [], none, 0⟩,
 ⟨none, .store 7 (.t 2) (.t 19), none, 1⟩,
 ⟨(some 3), .mv (.c (.pv (.int .i64 (22)))), none, 3⟩] false)
 (.ret))
 (.skip)))
 (.seq (.reg [⟨(some 20), .load true 7 (.t 1), none, 0⟩,
 ⟨(some 21), .build [.pv (.int .i64 (0)), .pv (.bool false), .pv (.int .i64 (0)), .pv (.str []), .pv (.int .i64 (0)), .pv (.int .i64 (0)), .pv (.int .i64 (0))] [(0, 7, .t 20)], none, 1⟩,
 ⟨none, .store 7 (.t 2) (.t 21), none, 3⟩,
 ⟨(some 3), .mv (.c (.pv (.int .i64 (0)))), none, 7⟩] false)
 (.ret))))⟩
def c_object_number_value : RFn := ⟨1, 14, [.tmp 2],
 .seq (.reg [⟨(some 1), .box 7 (.t 0), none, 0⟩,
 ⟨(some 2), .mv (.c (.pv (.int .i64 (0)))), none, 0⟩] false)
 (.seq (.seq (.reg [⟨(some 3), .faddr (.t 1) 0, none, 0⟩,
 ⟨(some 4), .faddr (.t 3) 0, none, 1⟩,
 ⟨(some 5), .load false 1 (.t 4), none, 3⟩,
 ⟨(some 6), .bin .eql (.t 5) (.c (.pv (.int .i64 (3)))), none, 7⟩] false)
 (.cond (.t 6)
 (.seq (.reg [⟨(some 7), .faddr (.t 1) 0, none, 0⟩,
 ⟨(some 8), .faddr (.t 7) 2, none, 1⟩,
 ⟨(some 9), .load false 1 (.t 8), none, 3⟩,
 ⟨(some 10), .bin .mul (.t 9) (.c (.pv (.int .i64 (65536)))), none, 7⟩,
 ⟨(some 2), .mv (.t 10), none, 15⟩] false)
 (.ret))
 (.skip)))
 (.seq (.reg [⟨(some 11), .faddr (.t 1) 0, none, 0⟩,
 ⟨(some 12), .faddr (.t 11) 2, none, 1⟩,
 ⟨(some 13), .load false 1 (.t 12), none, 3⟩,
 ⟨(some 2), .mv (.t 13), none, 7⟩] false)
 (.ret)))⟩
def c_slices_Index_int : RFn := ⟨2, 19, [.tmp 4],
 .seq (.reg [⟨(some 4), .mv (.c (.pv (.int .i64 (0)))), none, 0⟩] false)
 (.seq (.seq (.reg [⟨(some 6), .mv (.t 0), none, 0⟩,
 ⟨(some 7), .slen (.t 6), none, 1⟩,
 ⟨(some 8), .mv (.c (.pv (.int .i64 (0)))), none, 0⟩] false)
 (.block 0
 (.loop [0, 1, 7, 8]
 (.seq (.reg [⟨(some 9), .bin .lss (.t 8) (.t 7), none, 0⟩] false)
 (.seq (.cond (.t 9)
 (.skip)
 (.exit 0))
 (.seq (.block 1
 (.seq (.reg [⟨(some 10), .mv (.t 8), none, 0⟩,
 ⟨(some 5), .mv (.t 10), none, 1⟩] false)
 (.seq (.reg [⟨(some 11), .mv (.t 1), none, 0⟩,
 ⟨(some 12), .mv (.t 0), none, 0⟩,
 ⟨(some 13), .mv (.t 5), none, 0⟩,
 ⟨(some 14), .iaddr 1 (.t 12) (.t 13), none, 6⟩,
 ⟨(some 15), .load false 1 (.t 14), none, 14⟩,
 ⟨(some 16), .bin .eql (.t 11) (.t 15), none, 31⟩] false)
 (.cond (.t 16)
 (.seq (.reg [⟨(some 17), .mv (.t 5), none, 0⟩,
 ⟨(some 4), .mv (.t 17), none, 1⟩] false)
 (.ret))
 (.skip)))))
 (.reg [⟨(some 18), .bin .add (.t 8) (.c (.pv (.int .i64 (1)))), none, 0⟩,
 ⟨(some 8), .mv (.t 18), none, 1⟩] false)))))))
 (.seq (.reg [⟨(some 4), .mv (.c (.pv (.int .i64 (-1)))), none, 0⟩] false)
 (.ret)))⟩
def c_object_Int : RFn := ⟨1, 8, [.cell 2 true 7, .tmp 3],
 .seq (.reg [⟨(some 2), .alloc [.pv (.int .i64 (0)), .pv (.bool false), .pv (.int .i64 (0)), .pv (.str []), .pv (.int .i64 (0)), .pv (.int .i64 (0)), .pv (.int .i64 (0))], none, 0⟩,
 ⟨(some 3), .mv (.c (.pv (.int .i64 (0)))), none, 0⟩] false)
 (.seq (.reg [⟨(some 4), .mv (.t 0), none, 0⟩,
 ⟨(some 5), .call (.f n_object_made_int) [.t 4, .f n_object_Int_1], none, 1⟩,
 ⟨(some 6), .extract (.t 5) 0, none, 3⟩,
 ⟨(some 7), .extract (.t 5) 1, none, 3⟩,
 ⟨none, .store 7 (.t 2) (.t 6), none, 15⟩,
 ⟨(some 3), .mv (.t 7), none, 31⟩] false)
 (.ret))⟩
def c_object_made_int : RFn := ⟨2, 15, [.cell 4 true 7, .tmp 5],
 .seq (.reg [⟨(some 4), .alloc [.pv (.int .i64 (0)), .pv (.bool false), .pv (.int .i64 (0)), .pv (.str []), .pv (.int .i64 (0)), .pv (.int .i64 (0)), .pv (.int .i64 (0))], none, 0⟩,
 ⟨(some 5), .mv (.c (.pv (.int .i64 (0)))), none, 0⟩] false)
 (.seq (.reg [⟨(some 7), .mv (.t 1), none, 0⟩,
 ⟨(some 8), .mv (.t 0), none, 0⟩,
 ⟨(some 9), .call (.t 7) [.t 8], none, 3⟩,
 ⟨(some 6), .alloc [.pv (.int .i64 (0)), .pv (.bool false), .pv (.int .i64 (0)), .pv (.str []), .pv (.int .i64 (0)), .pv (.int .i64 (0)), .pv (.int .i64 (0))], none, 0⟩,
 ⟨none, .store 7 (.t 6) (.t 9), none, 15⟩] false)
 (.seq (.seq (.reg [⟨(some 10), .load true 7 (.t 6), none, 0⟩,
 ⟨(some 11), .call (.f n_object_Check) [.t 10], none, 1⟩,
 ⟨(some 12), .bin .neq (.t 11) (.c (.pv (.int .i64 (0)))), none, 3⟩] false)
 (.cond (.t 12)
 (.seq (.reg [⟨(some 13), .build [.pv (.int .i64 (0)), .pv (.bool false), .pv (.int .i64 (0)), .pv (.str []), .pv (.int .i64 (0)), .pv (.int .i64 (0)), .pv (.int .i64 (0))] [], none, 0⟩,
 ⟨none, .store 7 (.t 4) (.t 13), none, 1⟩,
 ⟨(some 5), .mv (.c (.pv (.int .i64 (2)))), none, 3⟩] false)
 (.ret))
 (.skip)))
 (.seq (.reg [⟨(some 14), .load true 7 (.t 6), none, 0⟩,
 ⟨none, .store 7 (.t 4) (.t 14), none, 1⟩,
 ⟨(some 5), .mv (.c (.pv (.int .i64 (0)))), none, 3⟩] false)
 (.ret))))⟩
def c_object_Int_1 : RFn := ⟨1, 5, [.cell 2 true 7],
 .seq (.reg [⟨(some 2), .alloc [.pv (.int .i64 (0)), .pv (.bool false), .pv (.int .i64 (0)), .pv (.str []), .pv (.int .i64 (0)), .pv (.int .i64 (0)), .pv (.int .i64 (0))], none, 0⟩] false)
 (.seq (.reg [⟨(some 3), .mv (.t 0), none, 0⟩,
 ⟨(some 4), .build [.pv (.int .i64 (0)), .pv (.bool false), .pv (.int .i64 (0)), .pv (.str []), .pv (.int .i64 (0)), .pv (.int .i64 (0)), .pv (.int .i64 (0))] [(0, 1, .c (.pv (.int .i64 (3)))), (2, 1, .t 3)], none, 1⟩,
 ⟨none, .store 7 (.t 2) (.t 4), none, 3⟩] false)
 (.ret))⟩
end Go.Ab.Td
