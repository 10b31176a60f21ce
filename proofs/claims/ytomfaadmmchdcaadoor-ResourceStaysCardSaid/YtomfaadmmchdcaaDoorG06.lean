/- A part of the proof: the texts TdNm, TdCd0, TdTb. Under: nothing. -/
import Derived.Test.YtomfaadmmchdcaaDoorG05
set_option linter.unusedVariables false
namespace Go.Ab.Td
abbrev n_law18_ResourceStays:Nat:=4
abbrev W9:Nat:=6
abbrev a2J:Nat:=9
abbrev L2:Nat:=11
abbrev a2L:Nat:=12
abbrev P7:Nat:=14
abbrev M1:Nat:=15
abbrev p9:Nat:=16
abbrev x2:Nat:=17
abbrev M5:Nat:=18
abbrev o5:Nat:=19
abbrev X4:Nat:=22
abbrev a0O:Nat:=23
abbrev J3:Nat:=24
abbrev N6:Nat:=25
abbrev a2K:Nat:=26
abbrev Y4:Nat:=27
abbrev S7:Nat:=28
abbrev J4:Nat:=29
abbrev D4:Nat:=30
abbrev F4:Nat:=31
abbrev a5y:Nat:=32
abbrev a0N:Nat:=33
abbrev U5:Nat:=34
abbrev G4:Nat:=36
abbrev n5:Nat:=37
abbrev C4:Nat:=38
abbrev U9:Nat:=39
abbrev W8:Nat:=40
abbrev a1K:Nat:=43
abbrev S8:Nat:=45
abbrev E9:Nat:=46
abbrev S9:Nat:=47
abbrev K5:Nat:=49
abbrev r9:Nat:=50
abbrev U7:Nat:=51
abbrev P2:Nat:=52
abbrev G5:Nat:=53
abbrev a3o:Nat:=54
abbrev U8:Nat:=55
abbrev a1J:Nat:=56
abbrev X0:Nat:=57
abbrev a6W:Nat:=58
abbrev F1:Nat:=59
abbrev A8:Nat:=60
abbrev g9:Nat:=61
abbrev I7:Nat:=62
abbrev m9:Nat:=63
abbrev n6:Nat:=64
abbrev q8:Nat:=65
abbrev q9:Nat:=66
abbrev r6:Nat:=67
abbrev y1:Nat:=68
abbrev V1:Nat:=69
abbrev P9:Nat:=70
abbrev a5z:Nat:=71
abbrev a1Z:Nat:=72
abbrev a2N:Nat:=73
abbrev a0P:Nat:=74
abbrev a1M:Nat:=75
abbrev X3:Nat:=76
abbrev y0:Nat:=77
abbrev T1:Nat:=78
abbrev a2M:Nat:=79
abbrev x9:Nat:=80
abbrev u4:Nat:=81
abbrev U6:Nat:=82
abbrev J5:Nat:=83
abbrev w6:Nat:=84
abbrev O7:Nat:=85
abbrev P8:Nat:=86
abbrev v8:Nat:=87
abbrev C1:Nat:=88
abbrev a1X:Nat:=89
abbrev R4:Nat:=90
abbrev J6:Nat:=91
abbrev O6:Nat:=92
abbrev B3:Nat:=93
abbrev E4:Nat:=94
abbrev J7:Nat:=95
abbrev u5:Nat:=96
abbrev K4:Nat:=97
abbrev D7:Nat:=98
abbrev a1L:Nat:=101
abbrev C9:Nat:=102
abbrev o8:Nat:=103
abbrev u7:Nat:=104
abbrev J8:Nat:=105
abbrev a0j:Nat:=106
abbrev M6:Nat:=107
abbrev o9:Nat:=108
abbrev P6:Nat:=109
abbrev a3P:Nat:=110
abbrev Q0:Nat:=111
abbrev O8:Nat:=112
abbrev A0:Nat:=113
abbrev M3:Nat:=114
abbrev B0:Nat:=115
abbrev F0:Nat:=116
abbrev H3:Nat:=117
abbrev s0:Nat:=118
abbrev A5:Nat:=119
abbrev M4:Nat:=120
abbrev x6:Nat:=121
abbrev y5:Nat:=122
abbrev u6:Nat:=123
abbrev B7:Nat:=124
abbrev w9:Nat:=125
abbrev y9:Nat:=128
abbrev D1:Nat:=129
abbrev V2:Nat:=130
abbrev V3:Nat:=131
abbrev C2:Nat:=132
abbrev s7:Nat:=133
abbrev X1:Nat:=134
abbrev D2:Nat:=135
abbrev V0:Nat:=136
abbrev z9:Nat:=137
abbrev a1Y:Nat:=138
abbrev E3:Nat:=139
abbrev G3:Nat:=140
open Go Go.Ab
abbrev I (n:Int):AV:=.pv (.int .i64 n)
abbrev z0:List AV:=[I 0,.pv (.bool false),I 0,.pv (.str []),I 0,I 0,I 0]
abbrev z1:List AV:=[.emp 7,.emp 7,.emp 7,.emp 3,I 0,I 0,I 0,I 0,I 0,I 0,I 0,.emp 7,I 0,I 0,I 0,I 0,I 0,I 0,I 0,I 0,I 0,I 0,I 0,I 0,I 0,I 0,I 0,I 0,I 0,I 0,I 0,I 0,.pv (.bool false),.pv (.bool false),.emp 47,I 0,I 0,I 0,I 0,I 0,I 0,I 0,I 0,.emp 1,I 0,I 0,.emp 2,I 0,.pv (.bool false),I 0,.pv (.str []),I 0,I 0,I 0,I 0,I 0,I 0,I 0,I 0,I 0,I 0,I 0,.emp 57,.emp 47,.emp 3,.pv (.str []),I 0]
abbrev z2:List AV:=[I 0,.pv (.str []),.emp 7,.emp 7,.emp 7,I 0,I 0]
abbrev z3:List AV:=[.pv (.str []),I 0,I 0,I 0,I 0,I 0]
abbrev z4:List AV:=[.emp 7,I 0,.pv (.bool false),I 0,.pv (.str []),I 0,I 0,I 0]
abbrev z5:List AV:=[I 0,.pv (.bool false),I 0,.pv (.str []),I 0,I 0,I 0,I 0,.pv (.bool false),I 0,.pv (.str []),I 0,I 0,I 0,I 0,.pv (.bool false),I 0,.pv (.str []),I 0,I 0,I 0,I 0,.pv (.bool false),I 0,.pv (.str []),I 0,I 0,I 0,I 0]
abbrev z6:List AV:=[.pv (.str []),I 0,I 0,I 0,I 0,I 0,.pv (.str []),I 0,I 0,I 0,I 0,I 0,.pv (.str []),I 0,I 0,I 0,I 0,I 0,.pv (.str []),I 0,I 0,I 0,I 0,I 0,.pv (.str []),I 0,I 0,I 0,I 0,I 0,.pv (.str []),I 0,I 0,I 0,I 0,I 0,.pv (.str []),I 0,I 0,I 0,I 0,I 0,.pv (.str []),I 0,I 0,I 0,I 0,I 0,.pv (.str []),I 0,I 0,I 0,I 0,I 0,.pv (.str []),I 0,I 0,I 0,I 0,I 0,.pv (.str []),I 0,I 0,I 0,I 0,I 0,.pv (.str []),I 0,I 0,I 0,I 0,I 0,.pv (.str []),I 0,I 0,I 0,I 0,I 0]
abbrev i (d:Nat) (o:ROp) (p:Nat):o7:=⟨some d,o,none,p⟩
abbrev ig (d:Nat) (o:ROp) (g:Nat) (b:Bool) (p:Nat):o7:=⟨some d,o,some (g,b),p⟩
abbrev iz (o:ROp) (p:Nat):o7:=⟨none,o,none,p⟩
abbrev mv (a:RA):ROp:=.mv a
abbrev t0:RA:=.t 0
abbrev t1:RA:=.t 1
abbrev t2:RA:=.t 2
abbrev t3:RA:=.t 3
abbrev t4:RA:=.t 4
abbrev t5:RA:=.t 5
abbrev t6:RA:=.t 6
abbrev t7:RA:=.t 7
abbrev t8:RA:=.t 8
abbrev t9:RA:=.t 9
abbrev x3:RA:=.t 10
abbrev A6:RA:=.t 11
abbrev B2:RA:=.t 12
abbrev D9:RA:=.t 13
abbrev F6:RA:=.t 14
abbrev K0:RA:=.t 15
abbrev K6:RA:=.t 16
abbrev H5:RA:=.t 17
abbrev N1:RA:=.t 18
abbrev N7:RA:=.t 19
abbrev P0:RA:=.t 20
abbrev P1:RA:=.t 21
abbrev U0:RA:=.t 22
abbrev t23:RA:=.t 23
abbrev t24:RA:=.t 24
abbrev t25:RA:=.t 25
abbrev t26:RA:=.t 26
abbrev t27:RA:=.t 27
abbrev t28:RA:=.t 28
abbrev t29:RA:=.t 29
abbrev t30:RA:=.t 30
abbrev t31:RA:=.t 31
abbrev t32:RA:=.t 32
abbrev t33:RA:=.t 33
abbrev t34:RA:=.t 34
abbrev t35:RA:=.t 35
abbrev t36:RA:=.t 36
abbrev t37:RA:=.t 37
abbrev t38:RA:=.t 38
abbrev t39:RA:=.t 39
abbrev t40:RA:=.t 40
abbrev t41:RA:=.t 41
abbrev t42:RA:=.t 42
abbrev t43:RA:=.t 43
abbrev t44:RA:=.t 44
abbrev t45:RA:=.t 45
abbrev t46:RA:=.t 46
abbrev t47:RA:=.t 47
abbrev t48:RA:=.t 48
abbrev t49:RA:=.t 49
abbrev t50:RA:=.t 50
abbrev t51:RA:=.t 51
abbrev t52:RA:=.t 52
abbrev t53:RA:=.t 53
abbrev t54:RA:=.t 54
abbrev t55:RA:=.t 55
abbrev t56:RA:=.t 56
abbrev t57:RA:=.t 57
abbrev t58:RA:=.t 58
abbrev t59:RA:=.t 59
abbrev t60:RA:=.t 60
abbrev t61:RA:=.t 61
abbrev t62:RA:=.t 62
abbrev t63:RA:=.t 63
abbrev t64:RA:=.t 64
abbrev t65:RA:=.t 65
abbrev t66:RA:=.t 66
abbrev t67:RA:=.t 67
abbrev t68:RA:=.t 68
abbrev t69:RA:=.t 69
abbrev t70:RA:=.t 70
abbrev t71:RA:=.t 71
abbrev t72:RA:=.t 72
abbrev t73:RA:=.t 73
abbrev t74:RA:=.t 74
abbrev t75:RA:=.t 75
abbrev t76:RA:=.t 76
abbrev t77:RA:=.t 77
abbrev t78:RA:=.t 78
abbrev t79:RA:=.t 79
abbrev t80:RA:=.t 80
abbrev t81:RA:=.t 81
abbrev t82:RA:=.t 82
abbrev t83:RA:=.t 83
abbrev t84:RA:=.t 84
abbrev t85:RA:=.t 85
abbrev t86:RA:=.t 86
abbrev t87:RA:=.t 87
abbrev t88:RA:=.t 88
abbrev t89:RA:=.t 89
abbrev t90:RA:=.t 90
abbrev t91:RA:=.t 91
abbrev t92:RA:=.t 92
abbrev t93:RA:=.t 93
abbrev t94:RA:=.t 94
abbrev t95:RA:=.t 95
abbrev t96:RA:=.t 96
abbrev t97:RA:=.t 97
abbrev t98:RA:=.t 98
abbrev t99:RA:=.t 99
abbrev c3I:RA:=.t 100
abbrev c3J:RA:=.t 101
abbrev c3K:RA:=.t 102
abbrev c2s:RA:=.t 103
abbrev c3L:RA:=.t 104
abbrev c3M:RA:=.t 105
abbrev c3N:RA:=.t 106
abbrev c3O:RA:=.t 107
abbrev c3P:RA:=.t 108
abbrev c3Q:RA:=.t 109
abbrev c3R:RA:=.t 110
abbrev c0s:RA:=.t 111
abbrev c3S:RA:=.t 112
abbrev c3T:RA:=.t 113
abbrev c3U:RA:=.t 114
abbrev c3V:RA:=.t 115
abbrev c3W:RA:=.t 116
abbrev c3X:RA:=.t 117
abbrev c3Y:RA:=.t 118
abbrev c3Z:RA:=.t 119
abbrev c4a:RA:=.t 120
abbrev c4b:RA:=.t 121
abbrev c2t:RA:=.t 122
abbrev c4c:RA:=.t 123
abbrev c4d:RA:=.t 124
abbrev c4e:RA:=.t 125
abbrev c4f:RA:=.t 126
abbrev c4g:RA:=.t 127
abbrev c4h:RA:=.t 128
abbrev c4i:RA:=.t 129
abbrev c4j:RA:=.t 130
abbrev c4k:RA:=.t 131
abbrev c4l:RA:=.t 132
abbrev c4m:RA:=.t 133
abbrev c4n:RA:=.t 134
abbrev c4o:RA:=.t 135
abbrev c2u:RA:=.t 136
abbrev c4p:RA:=.t 137
abbrev c4q:RA:=.t 138
abbrev c5S:RA:=.t 139
abbrev c5T:RA:=.t 140
abbrev c5U:RA:=.t 141
abbrev c5V:RA:=.t 142
abbrev c5W:RA:=.t 143
abbrev c5X:RA:=.t 144
abbrev c5Y:RA:=.t 145
abbrev c5Z:RA:=.t 146
abbrev c6a:RA:=.t 147
abbrev c6b:RA:=.t 148
abbrev c6V:RA:=.t 149
abbrev c6W:RA:=.t 150
abbrev c6X:RA:=.t 151
abbrev c6Y:RA:=.t 152
abbrev c6Z:RA:=.t 153
abbrev c7a:RA:=.t 154
abbrev c7b:RA:=.t 155
abbrev c7c:RA:=.t 156
abbrev c6c:RA:=.t 157
abbrev c7d:RA:=.t 158
abbrev c7e:RA:=.t 159
abbrev c7f:RA:=.t 160
abbrev c7g:RA:=.t 161
abbrev c6d:RA:=.t 162
abbrev c7h:RA:=.t 163
abbrev c7i:RA:=.t 164
abbrev c7j:RA:=.t 165
abbrev c7k:RA:=.t 166
abbrev c7l:RA:=.t 167
abbrev c7m:RA:=.t 169
abbrev c7n:RA:=.t 170
abbrev c7o:RA:=.t 171
abbrev c7p:RA:=.t 172
abbrev c7q:RA:=.t 173
abbrev c7r:RA:=.t 174
abbrev c7s:RA:=.t 177
abbrev c7t:RA:=.t 178
abbrev c6e:RA:=.t 179
abbrev c7u:RA:=.t 180
abbrev c7v:RA:=.t 181
abbrev c9g:RA:=.t 182
abbrev c9h:RA:=.t 183
abbrev c9i:RA:=.t 184
end Go.Ab.Td
namespace Go.Ab.Td
open Go.Ab
def c_law18_ResourceStays:u0:=⟨4,85,[.tmp 8],
 .seq (.b9 [i 4 (.box 3 t0) 0,
 i 8 (.mv (.c (.pv (.bool false)))) 0] false)
 (.seq (.seq (.b9 [i 15 (.call (.f P7) []) 0,
 i 16 (.not K0) 1] false)
 (.cond K6
 (.seq (.b9 [i 8 (.mv (.c (.pv (.bool false)))) 0] false)
 .ret)
 .skip))
 (.seq (.b9 [i 17 (.load true 3 t4) 0,
 i 18 (mv t1) 0,
 i 19 (mv t2) 0,
 i 20 (.call (.f M1) [H5,N1,N7]) 7,
 i 9 (.alloc z1) 0,
 iz (.store 67 t9 P0) 31] false)
 (.seq (.b9 [i 22 (.load true 67 t9) 0,
 i 23 (mv t3) 0,
 i 24 (.call (.f p9) [U0,t23]) 3,
 i 21 (mv t24) 7,
 i 25 (.extract P1 0) 15,
 i 26 (.extract P1 1) 15,
 i 10 (.alloc z1) 0,
 iz (.store 67 x3 t25) 95,
 i 11 (mv t26) 255] false)
 (.seq (.seq (.b9 [i 27 (mv A6) 0,
 i 28 (.bin .neq t27 (.c (I 0))) 1] false)
 (.cond t28
 (.seq (.b9 [i 29 (.load true 67 x3) 0,
 i 30 (.load true 67 t9) 0,
 i 31 (.call (.f x2) [t29,t30]) 3,
 i 8 (mv t31) 7] false)
 .ret)
 .skip))
 (.seq (.b9 [i 12 (.mv (.c (I 0))) 0] false)
 (.seq (.seq (.b9 [i 32 (.b8 t9 2) 0,
 i 33 (.load false 1 t32) 1,
 i 34 (.n9 t33) 3,
 i 35 (.mv (.c (I 0))) 0] false)
 (.block 0
 (.loop [9,10,12,34,35]
 (.seq (.b9 [i 36 (.bin .lss t35 t34) 0] false)
 (.seq (.cond t36
 .skip
 (.exit 0))
 (.seq (.block 1
 (.seq (.b9 [i 37 (mv t35) 0,
 i 13 (mv t37) 1] false)
 (.seq (.b9 [i 38 (.b8 x3 2) 0,
 i 39 (.load false 1 t38) 1,
 i 40 (.n9 t39) 3,
 i 41 (.b8 t9 2) 0,
 i 42 (.load false 1 t41) 8,
 i 43 (.n9 t42) 24,
 i 44 (.bin .neq t40 t43) 63,
 i 45 (mv t44) 127,
 ig 46 (.b8 x3 2) 45 false 255,
 ig 47 (.load false 1 t46) 45 false 511,
 ig 48 (mv D9) 45 false 255,
 ig 49 (.m6 7 t47 t48) 45 false 2047,
 ig 50 (.load true 7 t49) 45 false 4095,
 ig 51 (.b8 t9 2) 45 false 255,
 ig 52 (.load false 1 t51) 45 false 8447,
 ig 53 (mv D9) 45 false 255,
 ig 54 (.m6 7 t52 t53) 45 false 57599,
 ig 55 (.load true 7 t54) 45 false 123135,
 ig 56 (.call (.f M5) [t50,t55]) 45 false 262143,
 ig 57 (.not t56) 45 false 524287,
 i 58 (.pick t45 (.c (.pv (.bool true))) t57) 1048575] true)
 (.cond t58
 (.b9 [i 59 (mv B2) 0,
 i 60 (.bin .add t59 (.c (I 1))) 1,
 i 12 (mv t60) 3] false)
 .skip))))
 (.b9 [i 61 (.bin .add t35 (.c (I 1))) 0,
 i 35 (mv t61) 1] false)))))))
 (.seq (.b9 [i 62 (.load true 67 x3) 0,
 i 14 (.alloc z1) 0,
 iz (.store 67 F6 t62) 3] false)
 (.seq (.b9 [i 63 (.b8 t9 0) 0,
 i 64 (.load false 1 t63) 1,
 i 65 (.b8 t9 2) 0,
 i 66 (.load false 1 t65) 4,
 i 67 (.b8 F6 0) 3,
 iz (.store 1 t67 t64) 19,
 i 68 (.b8 F6 2) 63,
 iz (.store 1 t68 t66) 127] true)
 (.seq (.b9 [i 69 (mv B2) 0,
 i 70 (.bin .leq t69 (.c (I 1))) 1,
 i 71 (mv t70) 3,
 ig 72 (.load true 67 F6) 71 true 7,
 ig 73 (.load true 67 t9) 71 true 7,
 ig 74 (.call (.f x2) [t72,t73]) 71 true 31,
 i 75 (.pick t71 t74 (.c (.pv (.bool false)))) 63,
 i 76 (mv t75) 127,
 ig 77 (.b8 x3 0) 76 true 255,
 ig 78 (.load false 1 t77) 76 true 511,
 ig 79 (.n9 t78) 76 true 1023,
 ig 80 (.b8 t9 0) 76 true 255,
 ig 81 (.load false 1 t80) 76 true 2303,
 ig 82 (.n9 t81) 76 true 6399,
 ig 83 (.bin .lss t79 t82) 76 true 16383,
 i 84 (.pick t76 t83 (.c (.pv (.bool false)))) 32767,
 i 8 (mv t84) 65535] false)
 .ret)))))))))⟩
def a4d:u0:=⟨0,185,[.tmp 0],
 .seq (.b9 [i 0 (.mv (.c (.pv (.bool false)))) 0] false)
 (.seq (.b9 [i 22 (.call (.f a0O) []) 0,
 i 1 (mv U0) 1] false)
 (.seq (.b9 [i 23 (.build z0 [(0,1,.c (I 9)),(4,1,.c (I 2))]) 0,
 i 2 (.alloc z0) 0,
 iz (.store 7 t2 t23) 3] false)
 (.seq (.b9 [i 25 (mv t1) 0,
 i 26 (.call (.f N6) [.c (I 0),.c (I 1),.c (I 2)]) 0,
 i 27 (.call (.f J3) [t25,t26]) 3,
 i 24 (mv t27) 7,
 i 28 (.extract t24 0) 15,
 i 29 (.extract t24 1) 15,
 i 3 (mv t28) 31,
 i 4 (mv t29) 127] false)
 (.seq (.b9 [i 31 (mv t1) 0,
 i 32 (.build z0 [(0,1,.c (I 7)),(4,1,.c (I 1)),(5,1,.c (I 1)),(6,1,.c (I 1))]) 0,
 i 33 (.call (.f a2K) [t31,t32]) 3,
 i 30 (mv t33) 7,
 i 34 (.extract t30 0) 15,
 i 35 (.extract t30 1) 15,
 i 5 (mv t34) 31,
 i 6 (mv t35) 127] false)
 (.seq (.b9 [i 37 (mv t1) 0,
 i 38 (.call (.f N6) [.c (I 0),.c (I 1),.c (I 4)]) 0,
 i 39 (.call (.f Y4) [t37,t38,.c (I 3),.c (.pv (.str [88]))]) 3,
 i 36 (mv t39) 7,
 i 40 (.extract t36 0) 15,
 i 41 (.extract t36 1) 15,
 i 7 (mv t40) 31,
 i 8 (mv t41) 127] false)
 (.seq (.b9 [i 43 (mv t1) 0,
 i 44 (.call (.f N6) [.c (I 0),.c (I 0),.c (I 1)]) 0,
 i 45 (.call (.f S7) [t43,t44]) 3,
 i 42 (mv t45) 7,
 i 46 (.extract t42 0) 15,
 i 47 (.extract t42 1) 15,
 i 9 (.alloc z0) 0,
 iz (.store 7 t9 t46) 95,
 i 10 (mv t47) 255] false)
 (.seq (.b9 [i 49 (mv t1) 0,
 i 50 (.load true 7 t2) 0,
 i 51 (.load true 7 t9) 0,
 i 52 (.call (.f J4) [t49,t50,t51]) 7,
 i 48 (mv t52) 15,
 i 53 (.extract t48 0) 31,
 i 54 (.extract t48 1) 31,
 i 55 (.extract t48 2) 31,
 i 11 (.alloc z0) 0,
 iz (.store 7 A6 t53) 319,
 i 12 (mv t54) 895,
 i 13 (mv t55) 2047] false)
 (.seq (.b9 [i 57 (mv t1) 0,
 i 58 (.load true 7 t2) 0,
 i 59 (.call (.f F4) [.c (.pv (.str [98]))]) 0,
 i 60 (.call (.f F4) [.c (.pv (.str [99]))]) 4,
 i 61 (.call (.f D4) [t57,t58,t59,t60]) 15,
 i 56 (mv t61) 31,
 i 62 (.extract t56 0) 63,
 i 63 (.extract t56 1) 63,
 i 14 (mv t62) 127,
 i 15 (mv t63) 511] true)
 (.seq (.b9 [i 65 (mv F6) 0,
 i 66 (.load true 7 t2) 0,
 i 67 (.call (.f F4) [.c (.pv (.str [99]))]) 0,
 i 68 (.call (.f F4) [.c (.pv (.str [99]))]) 4,
 i 69 (.call (.f D4) [t65,t66,t67,t68]) 15,
 i 64 (mv t69) 31,
 i 70 (.extract t64 0) 63,
 i 71 (.extract t64 1) 63,
 i 16 (mv t70) 127,
 i 17 (mv t71) 511] true)
 (.seq (.b9 [i 73 (mv t1) 0,
 i 74 (.build z2 [(0,1,.c (I 3)),(5,1,.c (I 10000))]) 0,
 i 75 (.call (.f a5y) [t73,t74]) 3,
 i 72 (mv t75) 7,
 i 76 (.extract t72 0) 15,
 i 77 (.extract t72 1) 15,
 i 78 (.extract t72 2) 15,
 i 18 (mv t76) 31,
 i 19 (mv t77) 191,
 i 20 (mv t78) 511] false)
 (.seq (.b9 [i 79 (mv t4) 0,
 i 80 (.bin .eql t79 (.c (I 0))) 1,
 i 81 (mv t80) 3,
 ig 82 (mv t6) 81 true 7,
 ig 83 (.bin .eql t82 (.c (I 0))) 81 true 15,
 i 84 (.pick t81 t83 (.c (.pv (.bool false)))) 31,
 i 85 (mv t84) 63,
 ig 86 (mv t8) 85 true 127,
 ig 87 (.bin .eql t86 (.c (I 0))) 85 true 255,
 i 88 (.pick t85 t87 (.c (.pv (.bool false)))) 511,
 i 89 (mv t88) 1023,
 ig 90 (mv x3) 89 true 2047,
 ig 91 (.bin .eql t90 (.c (I 0))) 89 true 4095,
 i 92 (.pick t89 t91 (.c (.pv (.bool false)))) 8191,
 i 93 (mv t92) 16383,
 ig 94 (mv D9) 93 true 32767,
 ig 95 (.bin .eql t94 (.c (I 0))) 93 true 65535,
 i 96 (.pick t93 t95 (.c (.pv (.bool false)))) 131071,
 i 97 (mv t96) 262143,
 ig 98 (mv K0) 97 true 524287,
 ig 99 (.bin .eql t98 (.c (I 0))) 97 true 1048575,
 i 100 (.pick t97 t99 (.c (.pv (.bool false)))) 2097151,
 i 101 (mv c3I) 4194303,
 ig 102 (mv P0) 101 true 8388607,
 ig 103 (.bin .eql c3K (.c (I 0))) 101 true 16777215,
 i 104 (.pick c3J c2s (.c (.pv (.bool false)))) 33554431,
 i 21 (mv c3L) 67108863] false)
 (.seq (.b9 [i 105 (mv P1) 0,
 i 106 (mv c3M) 1,
 ig 107 (mv t1) 106 true 3,
 ig 108 (.call (.f a0N) [c3O]) 106 true 7,
 ig 109 (.bin .eql c3P (.c (I 0))) 106 true 15,
 i 110 (.pick c3N c3Q (.c (.pv (.bool false)))) 31,
 i 111 (mv c3R) 63,
 ig 112 (mv t1) 111 true 127,
 ig 113 (.call (.f U5) [c3S]) 111 true 255,
 ig 114 (.bin .eql c3T (.c (I 16))) 111 true 511,
 i 115 (.pick c0s c3U (.c (.pv (.bool false)))) 1023,
 i 116 (mv c3V) 2047,
 ig 117 (mv t3) 116 true 4095,
 ig 118 (.bin .eql c3X (.c (.pv (.str [98,99])))) 116 true 8191,
 i 119 (.pick c3W c3Y (.c (.pv (.bool false)))) 16383,
 i 120 (mv c3Z) 32767,
 ig 121 (mv t5) 120 true 65535,
 ig 122 (.n9 c4b) 120 true 131071,
 ig 123 (.bin .eql c2t (.c (I 1))) 120 true 262143,
 i 124 (.pick c4a c4c (.c (.pv (.bool false)))) 524287,
 i 125 (mv c4d) 1048575,
 ig 126 (mv t5) 125 true 2097151,
 ig 127 (.m6 7 c4f (.c (I 0))) 125 true 4194303,
 ig 128 (.load true 7 c4g) 125 true 8388607,
 ig 129 (.call (.f N6) [.c (I 0),.c (I 2),.c (I 2)]) 125 true 2097151,
 ig 130 (.eqs false [0,1,0,2,0,0,0] c4h c4i) 125 true 33554431,
 i 131 (.pick c4e c4j (.c (.pv (.bool false)))) 67108863,
 i 132 (mv c4k) 134217727,
 ig 133 (mv t7) 132 true 268435455,
 ig 134 (.n9 c4m) 132 true 536870911,
 ig 135 (.bin .eql c4n (.c (I 3))) 132 true 1073741823,
 i 136 (.pick c4l c4o (.c (.pv (.bool false)))) 2147483647,
 i 137 (mv c2u) 4294967295,
 ig 138 (mv t7) 137 true 8589934591,
 ig 139 (.m6 7 c4q (.c (I 0))) 137 true 17179869183,
 ig 140 (.b8 c5S 1) 137 true 34359738367,
 ig 141 (.load false 1 c5T) 137 true 68719476735,
 ig 142 (.bin .eql c5U (.c (.pv (.str [97,98,99,100,88,102])))) 137 true 137438953471,
 i 143 (.pick c4p c5V (.c (.pv (.bool false)))) 274877906943,
 i 144 (mv c5W) 549755813887,
 ig 145 (.load true 7 t9) 144 true 1099511627775,
 ig 146 (.call (.f F4) [.c (.pv (.str [97]))]) 144 true 1099511627775,
 ig 147 (.eqs false [0,1,0,2,0,0,0] c5Y c5Z) 144 true 4398046511103,
 i 148 (.pick c5X c6a (.c (.pv (.bool false)))) 8796093022207,
 i 149 (mv c6b) 17592186044415,
 ig 150 (mv B2) 149 true 35184372088831,
 i 151 (.pick c6V c6W (.c (.pv (.bool false)))) 70368744177663,
 i 152 (mv c6X) 140737488355327,
 ig 153 (.b8 A6 2) 152 true 281474976710655,
 ig 154 (.load false 1 c6Z) 152 true 562949953421311,
 ig 155 (.bin .eql c7a (.c (I 7))) 152 true 1125899906842623,
 i 156 (.pick c6Y c7b (.c (.pv (.bool false)))) 2251799813685247,
 i 157 (mv c7c) 4503599627370495,
 ig 158 (mv H5) 157 true 9007199254740991,
 ig 159 (.bin .eql c7d (.c (I 30))) 157 true 18014398509481983,
 i 160 (.pick c6c c7e (.c (.pv (.bool false)))) 36028797018963967,
 i 161 (mv c7f) 72057594037927935,
 ig 162 (mv N7) 161 true 144115188075855871,
 ig 163 (.bin .eql c6d (.c (I 3))) 161 true 288230376151711743,
 i 164 (.pick c7g c7h (.c (.pv (.bool false)))) 576460752303423487,
 i 165 (mv c7i) 1152921504606846975,
 ig 166 (mv t1) 165 true 2305843009213693951,
 ig 167 (.call (.f N6) [.c (I 0),.c (I 0),.c (I 1)]) 165 true 2305843009213693951,
 ig 168 (.call (.f F4) [.c (.pv (.str [97]))]) 165 true 6917529027641081855,
 ig 169 (.call (.f a2J) [c7k,c7l,.t 168]) 165 true 18446744073709551615,
 i 170 (.pick c7j c7m (.c (.pv (.bool false)))) 36893488147419103231,
 i 171 (mv c7n) 73786976294838206463,
 ig 172 (mv t1) 171 true 147573952589676412927,
 ig 173 (.build z0 [(0,1,.c (I 7)),(4,1,.c (I 1)),(6,1,.c (I 1))]) 171 true 147573952589676412927,
 ig 174 (.V7 7 1 z0 [(0,c7q)]) 171 true 442721857769029238783,
 ig 175 (.call (.f a2L) [c7p,c7r]) 171 true 1180591620717411303423,
 ig 176 (.V7 1 3 [.pv (.bool false)] [(0,.c (.pv (.bool true))),(1,.c (.pv (.bool true))),(2,.c (.pv (.bool false)))]) 171 true 147573952589676412927,
 ig 177 (.call (.f L2) [.t 175,.t 176]) 171 true 4722366482869645213695,
 i 178 (.pick c7o c7s (.c (.pv (.bool false)))) 9444732965739290427391,
 i 179 (mv c7t) 18889465931478580854783,
 ig 180 (.build z2 []) 179 true 37778931862957161709567,
 ig 181 (.V7 7 1 z2 [(0,c7u)]) 179 true 75557863725914323419135,
 ig 182 (.call (.f a0N) [c7v]) 179 true 151115727451828646838271,
 ig 183 (.bin .eql c9g (.c (I 210))) 179 true 302231454903657293676543,
 i 184 (.pick c6e c9h (.c (.pv (.bool false)))) 604462909807314587353087,
 i 0 (mv c9i) 1208925819614629174706175] true)
 .ret))))))))))))⟩
def a5a:u0:=⟨3,58,[.tmp 6],
 .seq (.b9 [i 4 (.box 7 t1) 0,
 i 5 (.box 7 t2) 0,
 i 6 (.mv (.c (.pv (.bool false)))) 0] false)
 (.seq (.seq (.b9 [i 13 (mv t0) 0,
 i 14 (.load true 7 t4) 0,
 i 15 (.call (.f C4) [D9,F6]) 3,
 i 16 (.not K0) 7,
 i 17 (mv K6) 15,
 ig 18 (mv t0) 17 false 31,
 ig 19 (.load true 7 t5) 17 false 31,
 ig 20 (.call (.f C4) [N1,N7]) 17 false 127,
 ig 21 (.not P0) 17 false 255,
 i 22 (.pick H5 (.c (.pv (.bool true))) P1) 511] false)
 (.cond U0
 (.seq (.b9 [i 6 (.mv (.c (.pv (.bool false)))) 0] false)
 .ret)
 .skip))
 (.seq (.seq (.b9 [i 24 (.load true 7 t4) 0,
 i 25 (.load true 7 t5) 0,
 i 26 (.call (.f U9) [t24,t25]) 3,
 i 23 (mv t26) 7,
 i 27 (.extract t23 0) 15,
 i 28 (.extract t23 1) 15,
 i 7 (mv t27) 31,
 i 8 (mv t28) 127] false)
 (.seq (.b9 [i 29 (mv t8) 0,
 i 30 (.bin .eql t29 (.c (I 0))) 1] false)
 (.cond t30
 (.seq (.b9 [i 31 (mv t7) 0,
 i 32 (.bin .eql t31 (.c (I 0))) 1,
 i 6 (mv t32) 3] false)
 .ret)
 .skip)))
 (.seq (.b9 [i 34 (mv t0) 0,
 i 35 (.load true 7 t4) 0,
 i 36 (.call (.f W8) [t34,t35]) 3,
 i 33 (mv t36) 7,
 i 37 (.extract t33 0) 15,
 i 38 (.extract t33 1) 15,
 i 9 (mv t37) 31,
 i 10 (mv t38) 127] false)
 (.seq (.b9 [i 40 (mv t0) 0,
 i 41 (.load true 7 t5) 0,
 i 42 (.call (.f W8) [t40,t41]) 3,
 i 39 (mv t42) 7,
 i 43 (.extract t39 0) 15,
 i 44 (.extract t39 1) 15,
 i 11 (mv t43) 31,
 i 12 (mv t44) 127] false)
 (.seq (.seq (.b9 [i 45 (mv x3) 0,
 i 46 (mv t45) 1,
 ig 47 (mv B2) 46 true 3,
 i 48 (.pick t46 t47 (.c (.pv (.bool false)))) 7] false)
 (.cond t48
 (.seq (.b9 [i 49 (mv t9) 0,
 i 50 (mv A6) 0,
 i 51 (.bin .eql t49 t50) 3,
 i 6 (mv t51) 7] false)
 .ret)
 .skip))
 (.seq (.b9 [i 52 (.b8 t5 1) 0,
 i 53 (.load false 1 t52) 1,
 i 54 (.b8 t4 1) 3,
 iz (.store 1 t54 t53) 7] false)
 (.seq (.b9 [i 55 (.load true 7 t4) 0,
 i 56 (.load true 7 t5) 0,
 i 57 (.eqs false [0,1,0,2,0,0,0] t55 t56) 3,
 i 6 (mv t57) 7] false)
 .ret)))))))⟩
def V9:u0:=⟨2,26,[.tmp 4],
 .seq (.b9 [i 4 (.mv (.c (.pv (.bool false)))) 0] false)
 (.seq (.seq (.b9 [i 6 (mv t0) 0,
 i 7 (.n9 t6) 1,
 i 8 (mv t1) 0,
 i 9 (.n9 t8) 4,
 i 10 (.bin .neq t7 t9) 15] false)
 (.cond x3
 (.seq (.b9 [i 4 (.mv (.c (.pv (.bool false)))) 0] false)
 .ret)
 .skip))
 (.seq (.seq (.b9 [i 11 (mv t0) 0,
 i 12 (.n9 A6) 1,
 i 13 (.mv (.c (I 0))) 0] false)
 (.block 0
 (.loop [0,1,12,13]
 (.seq (.b9 [i 14 (.bin .lss D9 B2) 0] false)
 (.seq (.cond F6
 .skip
 (.exit 0))
 (.seq (.block 1
 (.seq (.b9 [i 15 (mv D9) 0,
 i 5 (mv K0) 1] false)
 (.seq (.b9 [i 16 (mv t0) 0,
 i 17 (mv t5) 0,
 i 18 (.m6 1 K6 H5) 3,
 i 19 (.load false 1 N1) 7,
 i 20 (mv t1) 0,
 i 21 (mv t5) 0,
 i 22 (.m6 1 P0 P1) 48,
 i 23 (.load false 1 U0) 112,
 i 24 (.eqb true N7 t23) 255] true)
 (.cond t24
 (.seq (.b9 [i 4 (.mv (.c (.pv (.bool false)))) 0] false)
 .ret)
 .skip))))
 (.b9 [i 25 (.bin .add D9 (.c (I 1))) 0,
 i 13 (mv t25) 1] false)))))))
 (.seq (.b9 [i 4 (.mv (.c (.pv (.bool true)))) 0] false)
 .ret)))⟩
def a5d:u0:=⟨2,24,[.tmp 4],
 .seq (.b9 [i 2 (.box 1 t0) 0,
 i 4 (.mv (.c (.emp 1))) 0] false)
 (.seq (.b9 [i 9 (.load false 1 t2) 0,
 i 10 (.n9 t9) 1,
 i 11 (.b2v 1 1 [.bool false] x3) 3,
 i 5 (.alloc [.emp 1]) 0,
 iz (.store 1 t5 A6) 15] false)
 (.seq (.b9 [i 6 (.alloc [.pv .nilFunc]) 0] false)
 (.seq (.b9 [i 12 (.mkf (.func S8) [] [t2,t5,t6]) 0,
 iz (.store 1 t6 B2) 1] false)
 (.seq (.seq (.b9 [i 13 (mv t1) 0,
 i 14 (.n9 D9) 1,
 i 15 (.mv (.c (I 0))) 0] false)
 (.block 0
 (.loop [5,6,13,14,15]
 (.seq (.b9 [i 16 (.bin .lss K0 F6) 0] false)
 (.seq (.cond K6
 .skip
 (.exit 0))
 (.seq (.block 1
 (.seq (.b9 [i 17 (.m6 7 D9 K0) 0,
 i 18 (.load true 7 H5) 1,
 i 8 (.alloc z0) 0,
 iz (.store 7 t8 N1) 7] false)
 (.b9 [i 19 (.load false 1 t6) 0,
 i 20 (.load true 7 t8) 0,
 i 21 (.call N7 [P0]) 3] false)))
 (.b9 [i 22 (.bin .add K0 (.c (I 1))) 0,
 i 15 (mv U0) 1] false)))))))
 (.seq (.b9 [i 23 (.load false 1 t5) 0,
 i 4 (mv t23) 1] false)
 .ret)))))⟩
def a4g:u0:=⟨0,85,[.tmp 0],
 .seq (.b9 [i 0 (.mv (.c (.pv (.bool false)))) 0] false)
 (.seq (.b9 [i 8 (.call (.f r9) [.c (.pv (.str [70]))]) 0,
 i 9 (.call (.f U7) [.c (I 10)]) 1,
 i 10 (.call (.f r9) [.c (.pv (.str [70,111,110,116]))]) 3,
 i 11 (.V7 7 3 z0 [(0,t8),(1,t9),(2,x3)]) 7,
 i 12 (.call (.f K5) [A6]) 15,
 i 13 (.call (.f p9) [B2,.c (.pv (.str [100,101,102,105,110,101,114,101,115,111,117,114,99,101]))]) 31,
 i 7 (mv D9) 63,
 i 14 (.extract t7 0) 127,
 i 15 (.extract t7 1) 127,
 i 1 (.alloc z1) 0,
 iz (.store 67 t1 F6) 767,
 i 2 (mv K0) 2047] false)
 (.seq (.b9 [i 17 (.load true 67 t1) 0,
 i 18 (.call (.f r9) [.c (.pv (.str [70]))]) 0,
 i 19 (.call (.f P2) [H5,.c (.pv (.str [70,111,110,116])),N1]) 3,
 i 16 (mv N7) 7,
 i 20 (.extract K6 0) 15,
 i 21 (.extract K6 1) 15,
 i 3 (.alloc z0) 0,
 iz (.store 7 t3 P0) 95,
 i 4 (mv P1) 255] true)
 (.seq (.b9 [i 23 (.load true 67 t1) 0,
 i 24 (.call (.f r9) [.c (.pv (.str [70]))]) 0,
 i 25 (.call (.f P2) [t23,.c (.pv (.str [70,111,114,109])),t24]) 3,
 i 22 (mv t25) 7,
 i 26 (.extract U0 0) 15,
 i 27 (.extract U0 1) 15,
 i 5 (.alloc z0) 0,
 iz (.store 7 t5 t26) 95,
 i 6 (mv t27) 255] true)
 (.seq (.b9 [i 28 (mv t2) 0,
 i 29 (.bin .eql t28 (.c (I 0))) 1,
 i 30 (mv t29) 3,
 ig 31 (.b8 t1 0) 30 true 7,
 ig 32 (.load false 1 t31) 30 true 15,
 ig 33 (.call (.f U7) [.c (I 10)]) 30 true 7,
 ig 34 (.V7 7 1 z0 [(0,t33)]) 30 true 39,
 ig 35 (.call (.f G5) [t32,t34]) 30 true 127,
 i 36 (.pick t30 t35 (.c (.pv (.bool false)))) 255,
 i 37 (mv t36) 511,
 ig 38 (mv t4) 37 true 1023,
 ig 39 (.bin .eql t38 (.c (I 0))) 37 true 2047,
 i 40 (.pick t37 t39 (.c (.pv (.bool false)))) 4095,
 i 41 (mv t40) 8191,
 ig 42 (.load true 7 t3) 41 true 16383,
 ig 43 (.call (.f U7) [.c (I 10)]) 41 true 16383,
 ig 44 (.eqs false [0,1,0,2,0,0,0] t42 t43) 41 true 65535,
 i 45 (.pick t41 t44 (.c (.pv (.bool false)))) 131071,
 i 46 (mv t45) 262143,
 ig 47 (mv t6) 46 true 524287,
 ig 48 (.bin .eql t47 (.c (I 40))) 46 true 1048575,
 i 49 (.pick t46 t48 (.c (.pv (.bool false)))) 2097151,
 i 50 (mv t49) 4194303,
 ig 51 (.load true 67 t1) 50 true 8388607,
 ig 52 (.call (.f r9) [.c (.pv (.str [70]))]) 50 true 8388607,
 ig 53 (.call (.f r9) [.c (.pv (.str [70,111,110,116]))]) 50 true 25165823,
 ig 54 (.V7 7 2 z0 [(0,t52),(1,t53)]) 50 true 58720255,
 ig 55 (.call (.f U8) [t51,t54]) 50 true 134217727,
 ig 56 (.call (.f U7) [.c (I 10)]) 50 true 268435455,
 ig 57 (.V7 7 1 z0 [(0,t56)]) 50 true 536870911,
 ig 58 (.call (.f a3o) [t55,.c (.pv (.str [102,105,110,100,114,101,115,111,117,114,99,101])),t57]) 50 true 1073741823,
 i 59 (.pick t50 t58 (.c (.pv (.bool false)))) 2147483647,
 i 60 (mv t59) 4294967295,
 ig 61 (.load true 67 t1) 60 true 8589934591,
 ig 62 (.call (.f r9) [.c (.pv (.str [70]))]) 60 true 8589934591,
 ig 63 (.call (.f r9) [.c (.pv (.str [70,111,114,109]))]) 60 true 25769803775,
 ig 64 (.V7 7 2 z0 [(0,t62),(1,t63)]) 60 true 60129542143,
 ig 65 (.call (.f U8) [t61,t64]) 60 true 137438953471,
 ig 66 (.call (.f a1J) [.c (.pv (.bool false))]) 60 true 274877906943,
 ig 67 (.V7 7 1 z0 [(0,t66)]) 60 true 549755813887,
 ig 68 (.call (.f a3o) [t65,.c (.pv (.str [114,101,115,111,117,114,99,101,115,116,97,116,117,115])),t67]) 60 true 1099511627775,
 i 69 (.pick t60 t68 (.c (.pv (.bool false)))) 2199023255551,
 i 70 (mv t69) 4398046511103,
 ig 71 (.call (.f r9) [.c (.pv (.str [70]))]) 70 true 8796093022207,
 ig 72 (.call (.f a6W) [.c (I 1)]) 70 true 17592186044415,
 ig 73 (.call (.f r9) [.c (.pv (.str [70,111,110,116]))]) 70 true 35184372088831,
 ig 74 (.V7 7 3 z0 [(0,t71),(1,t72),(2,t73)]) 70 true 70368744177663,
 ig 75 (.call (.f K5) [t74]) 70 true 140737488355327,
 ig 76 (.call (.f X0) [t75,.c (.pv (.str [100,101,102,105,110,101,114,101,115,111,117,114,99,101])),.c (I 22)]) 70 true 281474976710655,
 i 77 (.pick t70 t76 (.c (.pv (.bool false)))) 562949953421311,
 i 78 (mv t77) 1125899906842623,
 ig 79 (.call (.f r9) [.c (.pv (.str [70]))]) 78 true 2251799813685247,
 ig 80 (.call (.f r9) [.c (.pv (.str [70,111,110,116,115]))]) 78 true 4503599627370495,
 ig 81 (.V7 7 2 z0 [(0,t79),(1,t80)]) 78 true 9007199254740991,
 ig 82 (.call (.f K5) [t81]) 78 true 18014398509481983,
 ig 83 (.call (.f X0) [t82,.c (.pv (.str [102,105,110,100,114,101,115,111,117,114,99,101])),.c (I 24)]) 78 true 36028797018963967,
 i 84 (.pick t78 t83 (.c (.pv (.bool false)))) 72057594037927935,
 i 0 (mv t84) 144115188075855871] true)
 .ret))))⟩
def a6f:u0:=⟨3,52,[.cell 6 true 67],
 .seq (.b9 [i 3 (.box 3 t0) 0,
 i 6 (.alloc z1) 0] false)
 (.seq (.b9 [i 11 (.load true 3 t3) 0,
 i 12 (.call (.f F1) [A6]) 1,
 i 7 (.alloc z1) 0,
 iz (.store 67 t7 B2) 7] false)
 (.seq (.seq (.b9 [i 13 (mv t1) 0,
 i 14 (mv t1) 0,
 i 15 (.n9 F6) 2,
 i 16 (.mm false [K0,.c (I 3)]) 6,
 i 17 (.slice 5 D9 none (some K6) none) 15,
 i 18 (.n9 H5) 31,
 i 19 (.mv (.c (I 0))) 0] false)
 (.block 0
 (.loop [2,6,7,17,18,19]
 (.seq (.b9 [i 20 (.bin .lss N7 N1) 0] false)
 (.seq (.cond P0
 .skip
 (.exit 0))
 (.seq (.block 1
 (.seq (.b9 [i 21 (.m6 5 H5 N7) 0,
 i 22 (.load true 5 P1) 1,
 i 9 (.alloc [.pv (.int .u8 (0)),.pv (.int .u8 (0)),.pv (.int .u8 (0)),.pv (.int .i32 (0)),.pv (.str [])]) 0,
 iz (.store 5 t9 U0) 7] false)
 (.b9 [i 23 (.b8 t7 0) 0,
 i 24 (.load false 1 t23) 1,
 i 25 (.load true 5 t9) 0,
 i 26 (.b8 t7 2) 0,
 i 27 (.load false 1 t26) 8,
 i 28 (.call (.f n5) [t25,t27]) 28,
 i 29 (.V7 7 1 z0 [(0,t28)]) 60,
 i 30 (.append 7 64 t24 t29) 127,
 i 31 (.b8 t7 0) 255,
 iz (.store 1 t31 t30) 511] true)))
 (.b9 [i 32 (.bin .add N7 (.c (I 1))) 0,
 i 19 (mv t32) 1] false)))))))
 (.seq (.seq (.b9 [i 33 (mv t2) 0,
 i 34 (.bin .rem t33 (.c (.pv (.int .u8 (8))))) 1,
 i 35 (.bin .lss t34 (.c (.pv (.int .u8 (7))))) 3] false)
 (.cond t35
 (.seq (.b9 [i 36 (.call (.f A8) []) 0,
 i 37 (.V7 1 2 [.pv (.str [])] [(0,.c (.pv (.str [97]))),(1,.c (.pv (.str [])))]) 0,
 i 38 (.append 1 16 t36 t37) 3,
 i 10 (mv t38) 7] false)
 (.b9 [i 39 (.b8 t7 0) 0,
 i 40 (.load false 1 t39) 1,
 i 41 (mv x3) 0,
 i 42 (mv t2) 0,
 i 43 (.bin .rem t42 (.c (.pv (.int .u8 (8))))) 8,
 i 44 (.conv .i64 t43) 24,
 i 45 (.m6 1 t41 t44) 60,
 i 46 (.load false 1 t45) 124,
 i 47 (.call (.f r9) [t46]) 252,
 i 48 (.V7 7 1 z0 [(0,t47)]) 508,
 i 49 (.append 7 64 t40 t48) 1023,
 i 50 (.b8 t7 0) 2047,
 iz (.store 1 t50 t49) 4095] true))
 .skip))
 (.seq (.b9 [i 51 (.load true 67 t7) 0,
 iz (.store 67 t6 t51) 1] false)
 .ret))))⟩
def a4i:u0:=⟨2,48,[.cell 4 true 67,.tmp 5],
 .seq (.b9 [i 2 (.box 67 t0) 0,
 i 4 (.alloc z1) 0,
 i 5 (.mv (.c (I 0))) 0] false)
 (.seq (.b9 [i 12 (.load true 67 t2) 0,
 i 13 (.build z1 [(0,67,B2)]) 1,
 i 6 (.alloc z1) 0,
 iz (.store 67 t6 D9) 7] false)
 (.seq (.b9 [i 14 (.load true 67 t6) 0,
 i 15 (.mkf (.func g9) [F6] []) 1,
 i 7 (.alloc [.pv .nilFunc]) 0,
 iz (.store 1 t7 K0) 7] false)
 (.seq (.b9 [i 16 (.mkf (.func I7) [] [t7,t2]) 0,
 i 8 (mv K6) 1] false)
 (.seq (.b9 [i 17 (.b2u) 0,
 i 18 (mv t8) 0,
 i 19 (.load true 67 t6) 0,
 i 20 (.mkf (.func n6) [N7] []) 4,
 i 21 (.call N1 [.c (I 3),P0]) 14,
 iz (.insert H5 (.c (.pv (.str [100,101,102,105,110,101,114,101,115,111,117,114,99,101]))) P1) 31,
 i 22 (mv t8) 0,
 i 23 (.load true 67 t6) 0,
 i 24 (.mkf (.func q8) [t23] []) 128,
 i 25 (.call U0 [.c (I 2),t24]) 478,
 iz (.insert H5 (.c (.pv (.str [102,105,110,100,114,101,115,111,117,114,99,101]))) t25) 991,
 i 26 (mv t8) 0,
 i 27 (.load true 67 t6) 0,
 i 28 (.mkf (.func q9) [t27] []) 4096,
 i 29 (.call t26 [.c (I 2),t28]) 15326,
 iz (.insert H5 (.c (.pv (.str [117,110,100,101,102,105,110,101,114,101,115,111,117,114,99,101]))) t29) 31711,
 i 30 (mv t8) 0,
 i 31 (.load true 67 t6) 0,
 i 32 (.mkf (.func r6) [t31] []) 131072,
 i 33 (.call t30 [.c (I 2),t32]) 490462,
 iz (.insert H5 (.c (.pv (.str [114,101,115,111,117,114,99,101,115,116,97,116,117,115]))) t33) 1014751,
 i 34 (mv H5) 2097151,
 i 9 (mv t34) 4194303] true)
 (.seq (.b9 [i 36 (mv t9) 0,
 i 37 (mv t1) 0,
 i 38 (.lookup t36 t37 (.pv .nilFunc)) 3,
 i 35 (mv t38) 7,
 i 39 (.extract t35 0) 15,
 i 40 (.extract t35 1) 15,
 i 10 (mv t39) 31,
 i 11 (mv t40) 127] false)
 (.seq (.seq (.b9 [i 41 (mv A6) 0,
 i 42 (.not t41) 1] false)
 (.cond t42
 (.seq (.b9 [i 43 (.load true 67 t2) 0,
 iz (.store 67 t4 t43) 1,
 i 5 (.mv (.c (I 24))) 3] false)
 .ret)
 .skip))
 (.seq (.b9 [i 44 (mv x3) 0,
 i 45 (.call t44 []) 1,
 i 46 (.extract t45 0) 3,
 i 47 (.extract t45 1) 3,
 iz (.store 67 t4 t46) 15,
 i 5 (mv t47) 31] false)
 .ret)))))))⟩
def a0B:u0:=⟨2,149,[.tmp 4],
 .seq (.b9 [i 2 (.box 67 t0) 0,
 i 3 (.box 67 t1) 0,
 i 4 (.mv (.c (.pv (.bool false)))) 0] false)
 (.seq (.seq (.b9 [i 9 (.b8 t2 0) 0,
 i 10 (.load false 1 t9) 1,
 i 11 (.b8 t3 0) 0,
 i 12 (.load false 1 A6) 4,
 i 13 (.call (.f y1) [x3,B2]) 15,
 i 14 (.not D9) 31,
 i 15 (mv F6) 63,
 ig 16 (.b8 t2 1) 15 false 127,
 ig 17 (.load false 1 K6) 15 false 255,
 ig 18 (.b8 t3 1) 15 false 127,
 ig 19 (.load false 1 N1) 15 false 639,
 ig 20 (.call (.f y1) [H5,N7]) 15 false 2047,
 ig 21 (.not P0) 15 false 4095,
 i 22 (.pick K0 (.c (.pv (.bool true))) P1) 8191,
 i 23 (mv U0) 16383,
 ig 24 (.b8 t2 2) 23 false 32767,
 ig 25 (.load false 1 t24) 23 false 65535,
 ig 26 (.b8 t3 2) 23 false 32767,
 ig 27 (.load false 1 t26) 23 false 163839,
 ig 28 (.call (.f V1) [t25,t27]) 23 false 524287,
 ig 29 (.not t28) 23 false 1048575,
 i 30 (.pick t23 (.c (.pv (.bool true))) t29) 2097151,
 i 31 (mv t30) 4194303,
 ig 32 (.b8 t2 3) 31 false 8388607,
 ig 33 (.load false 1 t32) 31 false 16777215,
 ig 34 (.n9 t33) 31 false 33554431,
 ig 35 (.b8 t3 3) 31 false 8388607,
 ig 36 (.load false 1 t35) 31 false 75497471,
 ig 37 (.n9 t36) 31 false 209715199,
 ig 38 (.bin .neq t34 t37) 31 false 536870911,
 i 39 (.pick t31 (.c (.pv (.bool true))) t38) 1073741823,
 i 40 (mv t39) 2147483647,
 ig 41 (.b8 t2 4) 40 false 4294967295,
 ig 42 (.load false 1 t41) 40 false 8589934591,
 ig 43 (.b8 t3 4) 40 false 4294967295,
 ig 44 (.load false 1 t43) 40 false 21474836479,
 ig 45 (.bin .neq t42 t44) 40 false 68719476735,
 i 46 (.pick t40 (.c (.pv (.bool true))) t45) 137438953471,
 i 47 (mv t46) 274877906943,
 ig 48 (.b8 t2 62) 47 false 549755813887,
 ig 49 (.load false 1 t48) 47 false 1099511627775,
 ig 50 (.n9 t49) 47 false 2199023255551,
 ig 51 (.b8 t3 62) 47 false 549755813887,
 ig 52 (.load false 1 t51) 47 false 4947802324991,
 ig 53 (.n9 t52) 47 false 13743895347199,
 ig 54 (.bin .neq t50 t53) 47 false 35184372088831,
 i 55 (.pick t47 (.c (.pv (.bool true))) t54) 70368744177663,
 i 56 (mv t55) 140737488355327,
 ig 57 (.b8 t2 65) 56 false 281474976710655,
 ig 58 (.load false 1 t57) 56 false 562949953421311,
 ig 59 (.b8 t3 65) 56 false 281474976710655,
 ig 60 (.load false 1 t59) 56 false 1407374883553279,
 ig 61 (.bin .neq t58 t60) 56 false 4503599627370495,
 i 62 (.pick t56 (.c (.pv (.bool true))) t61) 9007199254740991,
 i 63 (mv t62) 18014398509481983,
 ig 64 (.b8 t2 66) 63 false 36028797018963967,
 ig 65 (.load false 1 t64) 63 false 72057594037927935,
 ig 66 (.b8 t3 66) 63 false 36028797018963967,
 ig 67 (.load false 1 t66) 63 false 180143985094819839,
 ig 68 (.bin .neq t65 t67) 63 false 576460752303423487,
 i 69 (.pick t63 (.c (.pv (.bool true))) t68) 1152921504606846975] false)
 (.cond t69
 (.seq (.b9 [i 4 (.mv (.c (.pv (.bool false)))) 0] false)
 .ret)
 .skip))
 (.seq (.seq (.b9 [i 5 (.mv (.c (I 0))) 0] false)
 (.block 0
 (.loop [2,3,5]
 (.seq (.seq (.b9 [i 70 (mv t5) 0,
 i 71 (.b8 t2 3) 0,
 i 72 (.load false 1 t71) 2,
 i 73 (.n9 t72) 6,
 i 74 (.bin .lss t70 t73) 15] false)
 (.cond t74
 .skip
 (.exit 0)))
 (.seq (.block 1
 (.seq (.b9 [i 77 (.b8 t2 3) 0,
 i 78 (.load false 1 t77) 1,
 i 79 (mv t5) 0,
 i 80 (.m6 3 t78 t79) 7,
 i 81 (.load true 3 t80) 15,
 i 82 (.b8 t3 3) 0,
 i 83 (.load false 1 t82) 32,
 i 84 (mv t5) 0,
 i 85 (.m6 3 t83 t84) 224,
 i 86 (.load true 3 t85) 480,
 i 6 (.alloc [I 0,.emp 7,I 0]) 0,
 i 7 (.alloc [I 0,.emp 7,I 0]) 0,
 iz (.store 3 t6 t81) 3103,
 iz (.store 3 t7 t86) 8191] true)
 (.seq (.b9 [i 87 (.b8 t6 0) 0,
 i 88 (.load false 1 t87) 1,
 i 89 (.b8 t7 0) 0,
 i 90 (.load false 1 t89) 4,
 i 91 (.bin .neq t88 t90) 15,
 i 92 (mv t91) 31,
 ig 93 (.b8 t6 2) 92 false 63,
 ig 94 (.load false 1 t93) 92 false 127,
 ig 95 (.b8 t7 2) 92 false 63,
 ig 96 (.load false 1 t95) 92 false 319,
 ig 97 (.bin .neq t94 t96) 92 false 1023,
 i 98 (.pick t92 (.c (.pv (.bool true))) t97) 2047,
 i 99 (mv t98) 4095,
 ig 100 (.b8 t6 1) 99 false 8191,
 ig 101 (.load false 1 c3I) 99 false 16383,
 ig 102 (.b8 t7 1) 99 false 8191,
 ig 103 (.load false 1 c3K) 99 false 40959,
 ig 104 (.call (.f V1) [c3J,c2s]) 99 false 131071,
 ig 105 (.not c3L) 99 false 262143,
 i 106 (.pick t99 (.c (.pv (.bool true))) c3M) 524287] false)
 (.cond c3N
 (.seq (.b9 [i 4 (.mv (.c (.pv (.bool false)))) 0] false)
 .ret)
 .skip))))
 (.b9 [i 75 (mv t5) 0,
 i 76 (.bin .add t75 (.c (I 1))) 1,
 i 5 (mv t76) 3] false))))))
 (.seq (.seq (.b9 [i 8 (.mv (.c (I 0))) 0] false)
 (.block 2
 (.loop [2,3,8]
 (.seq (.seq (.b9 [i 107 (mv t8) 0,
 i 108 (.b8 t2 62) 0,
 i 109 (.load false 1 c3P) 2,
 i 110 (.n9 c3Q) 6,
 i 111 (.bin .lss c3O c3R) 15] false)
 (.cond c0s
 .skip
 (.exit 2)))
 (.seq (.block 3
 (.seq (.b9 [i 114 (.b8 t2 62) 0,
 i 115 (.load false 1 c3U) 1,
 i 116 (mv t8) 0,
 i 117 (.m6 57 c3V c3W) 7,
 i 118 (.load true 57 c3X) 15,
 i 119 (.b8 t3 62) 0,
 i 120 (.load false 1 c3Z) 32,
 i 121 (mv t8) 0,
 i 122 (.m6 57 c4a c4b) 224,
 i 123 (.load true 57 c2t) 480,
 i 124 (.call (.f P9) [c3Y,c4c]) 1023,
 i 125 (.not c4d) 2047] true)
 (.cond c4e
 (.seq (.b9 [i 4 (.mv (.c (.pv (.bool false)))) 0] false)
 .ret)
 .skip)))
 (.b9 [i 112 (mv t8) 0,
 i 113 (.bin .add c3S (.c (I 1))) 1,
 i 8 (mv c3T) 3] false))))))
 (.seq (.b9 [i 126 (.b8 t2 5) 0,
 i 127 (.load true 57 c4f) 1,
 i 128 (.b8 t3 5) 0,
 i 129 (.load true 57 c4h) 4,
 i 130 (.call (.f P9) [c4g,c4i]) 15,
 i 131 (mv c4j) 31,
 ig 132 (.b8 t2 63) 131 true 63,
 ig 133 (.load false 1 c4l) 131 true 127,
 ig 134 (.n9 c4m) 131 true 255,
 ig 135 (.b8 t3 63) 131 true 63,
 ig 136 (.load false 1 c4o) 131 true 575,
 ig 137 (.n9 c2u) 131 true 1599,
 ig 138 (.bin .eql c4n c4p) 131 true 4095,
 i 139 (.pick c4k c4q (.c (.pv (.bool false)))) 8191,
 i 140 (mv c5S) 16383,
 ig 141 (.b8 t2 64) 140 true 32767,
 ig 142 (.load false 1 c5U) 140 true 65535,
 ig 143 (.n9 c5V) 140 true 131071,
 ig 144 (.b8 t3 64) 140 true 32767,
 ig 145 (.load false 1 c5X) 140 true 294911,
 ig 146 (.n9 c5Y) 140 true 819199,
 ig 147 (.bin .eql c5W c5Z) 140 true 2097151,
 i 148 (.pick c5T c6a (.c (.pv (.bool false)))) 4194303,
 i 4 (mv c6b) 8388607] false)
 .ret))))⟩
def a1n:u0:=⟨2,52,[.tmp 4],
 .seq (.b9 [i 2 (.box 7 t0) 0,
 i 3 (.box 7 t1) 0,
 i 4 (.mv (.c (.pv (.bool false)))) 0] false)
 (.seq (.b9 [i 5 (.b8 t2 0) 0,
 i 6 (.load false 1 t5) 1,
 i 7 (.b8 t3 0) 0,
 i 8 (.load false 1 t7) 4,
 i 9 (.bin .eql t6 t8) 15,
 i 10 (mv t9) 31,
 ig 11 (.b8 t2 1) 10 true 63,
 ig 12 (.load false 1 A6) 10 true 127,
 ig 13 (.b8 t3 1) 10 true 63,
 ig 14 (.load false 1 D9) 10 true 319,
 ig 15 (.bin .eql B2 F6) 10 true 1023,
 i 16 (.pick x3 K0 (.c (.pv (.bool false)))) 2047,
 i 17 (mv K6) 4095,
 ig 18 (.b8 t2 2) 17 true 8191,
 ig 19 (.load false 1 N1) 17 true 16383,
 ig 20 (.b8 t3 2) 17 true 8191,
 ig 21 (.load false 1 P0) 17 true 40959,
 ig 22 (.call (.f y1) [N7,P1]) 17 true 131071,
 i 23 (.pick H5 U0 (.c (.pv (.bool false)))) 262143,
 i 24 (mv t23) 524287,
 ig 25 (.b8 t2 3) 24 true 1048575,
 ig 26 (.load false 1 t25) 24 true 2097151,
 ig 27 (.b8 t3 3) 24 true 1048575,
 ig 28 (.load false 1 t27) 24 true 5242879,
 ig 29 (.call (.f y1) [t26,t28]) 24 true 16777215,
 i 30 (.pick t24 t29 (.c (.pv (.bool false)))) 33554431,
 i 31 (mv t30) 67108863,
 ig 32 (.b8 t2 4) 31 true 134217727,
 ig 33 (.load false 1 t32) 31 true 268435455,
 ig 34 (.b8 t3 4) 31 true 134217727,
 ig 35 (.load false 1 t34) 31 true 671088639,
 ig 36 (.call (.f y1) [t33,t35]) 31 true 2147483647,
 i 37 (.pick t31 t36 (.c (.pv (.bool false)))) 4294967295,
 i 38 (mv t37) 8589934591,
 ig 39 (.b8 t2 5) 38 true 17179869183,
 ig 40 (.load false 1 t39) 38 true 34359738367,
 ig 41 (.b8 t3 5) 38 true 17179869183,
 ig 42 (.load false 1 t41) 38 true 85899345919,
 ig 43 (.bin .eql t40 t42) 38 true 274877906943,
 i 44 (.pick t38 t43 (.c (.pv (.bool false)))) 549755813887,
 i 45 (mv t44) 1099511627775,
 ig 46 (.b8 t2 6) 45 true 2199023255551,
 ig 47 (.load false 1 t46) 45 true 4398046511103,
 ig 48 (.b8 t3 6) 45 true 2199023255551,
 ig 49 (.load false 1 t48) 45 true 10995116277759,
 ig 50 (.bin .eql t47 t49) 45 true 35184372088831,
 i 51 (.pick t45 t50 (.c (.pv (.bool false)))) 70368744177663,
 i 4 (mv t51) 140737488355327] false)
 .ret)⟩
def b1N:u0:=⟨2,182,[.cell 4 true 67,.tmp 5],
 .seq (.b9 [i 2 (.box 67 t0) 0,
 i 4 (.alloc z1) 0,
 i 5 (.mv (.c (I 0))) 0] false)
 (.seq (.seq (.b9 [i 22 (.call (.f X4) []) 0,
 i 23 (mv t1) 0,
 i 24 (.call (.f a5z) [U0,t23]) 3,
 i 25 (.not t24) 7] false)
 (.cond t25
 (.seq (.b9 [i 26 (.load true 67 t2) 0,
 iz (.store 67 t4 t26) 1,
 i 5 (.mv (.c (I 24))) 3] false)
 .ret)
 .skip))
 (.seq (.b9 [i 6 (.mv (.c (I 2))) 0] false)
 (.seq (.seq (.b9 [i 27 (mv t1) 0,
 i 28 (.bin .eql t27 (.c (.pv (.str [100,101,102,105,110,101,114,101,115,111,117,114,99,101])))) 1] false)
 (.cond t28
 (.b9 [i 6 (.mv (.c (I 3))) 0] false)
 .skip))
 (.seq (.seq (.b9 [i 29 (.b8 t2 0) 0,
 i 30 (.load false 1 t29) 1,
 i 31 (.n9 t30) 3,
 i 32 (mv t6) 0,
 i 33 (.bin .lss t31 t32) 15] false)
 (.cond t33
 (.seq (.b9 [i 34 (.load true 67 t2) 0,
 iz (.store 67 t4 t34) 1,
 i 5 (.mv (.c (I 20))) 3] false)
 .ret)
 .skip))
 (.seq (.b9 [i 35 (.b8 t2 0) 0,
 i 36 (.load false 1 t35) 1,
 i 37 (.b8 t2 0) 0,
 i 38 (.load false 1 t37) 4,
 i 39 (.n9 t38) 12,
 i 40 (mv t6) 0,
 i 41 (.bin .sub t39 t40) 60,
 i 42 (.slice 7 t36 (some t41) none none) 127,
 i 7 (mv t42) 255] false)
 (.seq (.seq (.b9 [i 43 (mv t7) 0,
 i 44 (.m6 7 t43 (.c (I 0))) 1,
 i 45 (.b8 t44 0) 3,
 i 46 (.load false 1 t45) 7,
 i 47 (.bin .eql t46 (.c (I 0))) 15,
 i 48 (mv t47) 31,
 ig 49 (mv t7) 48 false 63,
 ig 50 (mv t6) 48 false 63,
 ig 51 (.bin .sub t50 (.c (I 1))) 48 false 191,
 ig 52 (.m6 7 t49 t51) 48 false 511,
 ig 53 (.b8 t52 0) 48 false 1023,
 ig 54 (.load false 1 t53) 48 false 2047,
 ig 55 (.bin .neq t54 (.c (I 5))) 48 false 4095,
 ig 56 (mv t55) 48 false 8191,
 ig 57 (mv t7) 56 true 16383,
 ig 58 (mv t6) 56 true 16383,
 ig 59 (.bin .sub t58 (.c (I 1))) 56 true 49151,
 ig 60 (.m6 7 t57 t59) 56 true 131071,
 ig 61 (.b8 t60 0) 56 true 262143,
 ig 62 (.load false 1 t61) 56 true 524287,
 ig 63 (.bin .neq t62 (.c (I 6))) 56 true 1048575,
 ig 64 (.pick t56 t63 (.c (.pv (.bool false)))) 48 false 2097151,
 i 65 (.pick t48 (.c (.pv (.bool true))) t64) 4194303] false)
 (.cond t65
 (.seq (.b9 [i 66 (.load true 67 t2) 0,
 iz (.store 67 t4 t66) 1,
 i 5 (.mv (.c (I 22))) 3] false)
 .ret)
 .skip))
 (.seq (.b9 [i 68 (.b8 t2 2) 0,
 i 69 (.load false 1 t68) 1,
 i 70 (mv t7) 0,
 i 71 (.m6 7 t70 (.c (I 0))) 4,
 i 72 (.load true 7 t71) 12,
 i 73 (.call (.f a1Z) [t69,t72]) 31,
 i 67 (mv t73) 63,
 i 74 (.extract t67 0) 127,
 i 75 (.extract t67 1) 127,
 i 8 (.alloc z0) 0,
 iz (.store 7 t8 t74) 767,
 i 9 (mv t75) 2047] true)
 (.seq (.b9 [i 77 (.b8 t2 2) 0,
 i 78 (.load false 1 t77) 1,
 i 79 (mv t7) 0,
 i 80 (mv t6) 0,
 i 81 (.bin .sub t80 (.c (I 1))) 8,
 i 82 (.m6 7 t79 t81) 28,
 i 83 (.load true 7 t82) 60,
 i 84 (.call (.f a1Z) [t78,t83]) 127,
 i 76 (mv t84) 255,
 i 85 (.extract t76 0) 511,
 i 86 (.extract t76 1) 511,
 i 10 (.alloc z0) 0,
 iz (.store 7 x3 t85) 3071,
 i 11 (mv t86) 8191] true)
 (.seq (.seq (.b9 [i 87 (mv t9) 0,
 i 88 (.bin .neq t87 (.c (I 0))) 1,
 i 89 (mv t88) 3,
 ig 90 (mv A6) 89 false 7,
 ig 91 (.bin .neq t90 (.c (I 0))) 89 false 15,
 i 92 (.pick t89 (.c (.pv (.bool true))) t91) 31] false)
 (.cond t92
 (.seq (.b9 [i 93 (.load true 67 t2) 0,
 iz (.store 67 t4 t93) 1,
 i 5 (.mv (.c (I 23))) 3] false)
 .ret)
 .skip))
 (.seq (.b9 [i 95 (.load true 67 t2) 0,
 i 96 (.load true 7 x3) 0,
 i 97 (.call (.f a2N) [t95,t96]) 3,
 i 94 (mv t97) 7,
 i 98 (.extract t94 0) 15,
 i 99 (.extract t94 1) 15,
 i 12 (.alloc z0) 0,
 iz (.store 7 B2 t98) 95,
 i 13 (mv t99) 255] false)
 (.seq (.seq (.b9 [i 100 (mv D9) 0,
 i 101 (.not c3I) 1] false)
 (.cond c3J
 (.seq (.b9 [i 102 (.load true 67 t2) 0,
 iz (.store 67 t4 c3K) 1,
 i 5 (.mv (.c (I 24))) 3] false)
 .ret)
 .skip))
 (.seq (.b9 [i 104 (.b8 t2 2) 0,
 i 105 (.load false 1 c3L) 1,
 i 106 (.load true 7 B2) 0,
 i 107 (.load true 7 t8) 0,
 i 108 (.call (.f a0P) [c3M,c3N,c3O]) 15,
 i 103 (mv c3P) 31,
 i 109 (.extract c2s 0) 63,
 i 110 (.extract c2s 1) 63,
 i 14 (.alloc z0) 0,
 iz (.store 7 F6 c3Q) 383,
 i 15 (mv c3R) 1023] false)
 (.seq (.seq (.b9 [i 111 (mv t1) 0] false)
 (.block 0
 (.seq (.b9 [i 113 (.bin .eql c0s (.c (.pv (.str [100,101,102,105,110,101,114,101,115,111,117,114,99,101])))) 0,
 i 112 (mv c3T) 1] false)
 (.cond c3S
 (.seq (.seq (.b9 [i 114 (.b8 x3 3) 0,
 i 115 (.load false 1 c3U) 1,
 i 116 (mv t7) 0,
 i 117 (.m6 7 c3W (.c (I 1))) 4,
 i 118 (.load true 7 c3X) 12,
 i 119 (.call (.f a1M) [c3V,c3Y]) 31,
 i 120 (.not c3Z) 63] true)
 (.cond c4a
 (.seq (.b9 [i 121 (.load true 67 t2) 0,
 iz (.store 67 t4 c4b) 1,
 i 5 (.mv (.c (I 22))) 3] false)
 .ret)
 .skip))
 (.seq (.b9 [i 123 (.b8 t2 2) 0,
 i 124 (.load false 1 c4c) 1,
 i 125 (.load true 7 B2) 0,
 i 126 (.load true 7 t8) 0,
 i 127 (mv t7) 0,
 i 128 (.m6 7 c4g (.c (I 1))) 16,
 i 129 (.load true 7 c4h) 48,
 i 130 (.call (.f X3) [c4d,c4e,c4f,c4i]) 127,
 i 122 (mv c4j) 255,
 i 131 (.extract c2t 0) 511,
 i 132 (.extract c2t 1) 511,
 i 16 (mv c4k) 1023,
 i 17 (mv c4l) 4095] true)
 (.seq (.seq (.b9 [i 133 (mv H5) 0,
 i 134 (.not c4m) 1] false)
 (.cond c4n
 (.seq (.b9 [i 135 (.load true 67 t2) 0,
 iz (.store 67 t4 c4o) 1,
 i 5 (.mv (.c (I 30))) 3] false)
 .ret)
 .skip))
 (.seq (.b9 [i 137 (.load true 67 t2) 0,
 i 138 (mv t7) 0,
 i 139 (.m6 7 c4q (.c (I 1))) 2,
 i 140 (.load true 7 c5S) 6,
 i 141 (.V7 7 1 z0 [(0,c5T)]) 14,
 i 142 (.call (.f y0) [c4p,.c (I 3),c5U]) 31,
 i 136 (mv c5V) 63,
 i 143 (.extract c2u 0) 127,
 i 144 (.extract c2u 1) 127,
 i 18 (.alloc z1) 0,
 iz (.store 67 N1 c5W) 767,
 i 19 (mv c5X) 2047] true)
 (.seq (.b9 [i 145 (mv K6) 0,
 i 146 (.b8 N1 2) 1,
 iz (.store 1 c5Z c5Y) 3] false)
 (.seq (.b9 [i 147 (.load true 67 N1) 0,
 i 148 (mv N7) 0,
 iz (.store 67 t4 c6a) 1,
 i 5 (mv c6b) 7] false)
 .ret))))))
 (.seq (.b9 [i 150 (.bin .eql c0s (.c (.pv (.str [102,105,110,100,114,101,115,111,117,114,99,101])))) 0,
 i 149 (mv c6W) 1] false)
 (.cond c6V
 (.seq (.seq (.b9 [i 151 (mv K0) 0,
 i 152 (.not c6X) 1] false)
 (.cond c6Y
 (.seq (.b9 [i 153 (.load true 67 t2) 0,
 iz (.store 67 t4 c6Z) 1,
 i 5 (.mv (.c (I 40))) 3] false)
 .ret)
 .skip))
 (.seq (.b9 [i 154 (.load true 67 t2) 0,
 i 155 (.load true 7 F6) 0,
 i 156 (.V7 7 1 z0 [(0,c7b)]) 2,
 i 157 (.call (.f y0) [c7a,.c (I 2),c7c]) 7,
 i 158 (.extract c6c 0) 15,
 i 159 (.extract c6c 1) 15,
 iz (.store 67 t4 c7d) 63,
 i 5 (mv c7e) 127] false)
 .ret))
 (.seq (.b9 [i 161 (.bin .eql c0s (.c (.pv (.str [117,110,100,101,102,105,110,101,114,101,115,111,117,114,99,101])))) 0,
 i 160 (mv c7g) 1] false)
 (.cond c7f
 (.seq (.b9 [i 163 (.load true 67 t2) 0,
 i 164 (.call (.f y0) [c7h,.c (I 2),.c (.emp 7)]) 1,
 i 162 (mv c7i) 3,
 i 165 (.extract c6d 0) 7,
 i 166 (.extract c6d 1) 7,
 i 20 (.alloc z1) 0,
 iz (.store 67 P0 c7j) 47,
 i 21 (mv c7k) 127] false)
 (.seq (.b9 [i 167 (.b8 t2 2) 0,
 i 168 (.load false 1 c7l) 1,
 i 169 (.load true 7 B2) 0,
 i 170 (.load true 7 t8) 0,
 i 171 (.call (.f T1) [.t 168,c7m,c7n]) 15,
 i 172 (.b8 P0 2) 31,
 iz (.store 1 c7p c7o) 63] false)
 (.seq (.b9 [i 173 (.load true 67 P0) 0,
 i 174 (mv P1) 0,
 iz (.store 67 t4 c7q) 1,
 i 5 (mv c7r) 7] false)
 .ret)))
 .skip))))))))
 (.seq (.b9 [i 175 (.load true 67 t2) 0,
 i 176 (mv K0) 0,
 i 177 (.call (.f a2M) [.t 176]) 2,
 i 178 (.V7 7 1 z0 [(0,c7s)]) 6,
 i 179 (.call (.f y0) [.t 175,.c (I 2),c7t]) 15,
 i 180 (.extract c6e 0) 31,
 i 181 (.extract c6e 1) 31,
 iz (.store 67 t4 c7u) 127,
 i 5 (mv c7v) 255] true)
 .ret))))))))))))))⟩
def a7v:u0:=⟨0,2,[.tmp 0],
 .seq (.b9 [i 0 (.mv (.c (.emp 1))) 0] false)
 (.seq (.b9 [i 1 (.V7 1 4 [.pv (.str [])] [(0,.c (.pv (.str [100,101,102,105,110,101,114,101,115,111,117,114,99,101]))),(1,.c (.pv (.str [102,105,110,100,114,101,115,111,117,114,99,101]))),(2,.c (.pv (.str [117,110,100,101,102,105,110,101,114,101,115,111,117,114,99,101]))),(3,.c (.pv (.str [114,101,115,111,117,114,99,101,115,116,97,116,117,115])))]) 0,
 i 0 (mv t1) 1] false)
 .ret)⟩
def a3d:u0:=⟨0,13,[.tmp 0],
 .seq (.b9 [i 0 (.mv (.c (.emp 7))) 0] false)
 (.seq (.b9 [i 1 (.build z2 [(0,1,.c (I 1)),(1,1,.c (.pv (.str [97,98,99,100,101,102])))]) 0,
 i 2 (.build z0 [(0,1,.c (I 3)),(2,1,.c (I 1))]) 0,
 i 3 (.build z0 [(0,1,.c (I 6)),(5,1,.c (I 2)),(6,1,.c (I 2))]) 0,
 i 4 (.build z0 []) 0,
 i 5 (.V7 7 3 z0 [(0,t2),(1,t3),(2,t4)]) 14,
 i 6 (.build z2 [(0,1,.c (I 2)),(2,1,t5)]) 30,
 i 7 (.build z0 [(0,1,.c (I 5)),(3,1,.c (.pv (.str [97])))]) 0,
 i 8 (.V7 7 1 z0 [(0,t7)]) 64,
 i 9 (.build z0 [(0,1,.c (I 3)),(2,1,.c (I 7))]) 0,
 i 10 (.V7 7 1 z0 [(0,t9)]) 256,
 i 11 (.build z2 [(0,1,.c (I 3)),(5,1,.c (I 2)),(3,1,t8),(4,1,x3)]) 960,
 i 12 (.V7 7 3 z2 [(0,t1),(1,t6),(2,A6)]) 2047,
 i 0 (mv B2) 4095] false)
 .ret)⟩
def a2y:u0:=⟨2,29,[.tmp 4,.tmp 5],
 .seq (.b9 [i 3 (.box 7 t1) 0,
 i 4 (.mv (.c (.pv (.str [])))) 0,
 i 5 (.mv (.c (I 0))) 2] false)
 (.seq (.b9 [i 9 (mv t0) 0,
 i 10 (.load true 7 t3) 0,
 i 11 (.V7 1 1 [I 0] [(0,.c (I 6))]) 0,
 i 12 (.call (.f x9) [t9,x3,A6]) 7,
 i 8 (mv B2) 15,
 i 13 (.extract t8 0) 31,
 i 14 (.extract t8 1) 31,
 i 6 (.alloc z4) 0,
 iz (.store 8 t6 D9) 191,
 i 7 (mv F6) 511] false)
 (.seq (.seq (.b9 [i 15 (mv t7) 0,
 i 16 (.bin .neq K0 (.c (I 0))) 1] false)
 (.cond K6
 (.seq (.b9 [i 17 (mv t7) 0,
 i 4 (.mv (.c (.pv (.str [])))) 0,
 i 5 (mv H5) 3] false)
 .ret)
 .skip))
 (.seq (.b9 [i 18 (.load true 8 t6) 0,
 i 19 (.call (.f u4) [N1]) 1,
 i 20 (.field false 1 1 N7) 3,
 i 21 (.b8 t3 5) 0,
 i 22 (.load false 1 P1) 8,
 i 23 (.b8 t3 5) 0,
 i 24 (.load false 1 t23) 32,
 i 25 (.b8 t3 6) 0,
 i 26 (.load false 1 t25) 128,
 i 27 (.bin .add t24 t26) 480,
 i 28 (.a3w P0 (some U0) (some t27)) 1023,
 i 4 (mv t28) 2047,
 i 5 (.mv (.c (I 0))) 4095] true)
 .ret)))⟩
def a6e:u0:=⟨3,11,[.cell 6 true 7],
 .seq (.b9 [i 6 (.alloc z0) 0] false)
 (.seq (.b9 [i 7 (mv t0) 0,
 i 8 (mv t1) 0,
 i 9 (mv t2) 0,
 i 10 (.build z0 [(0,1,.c (I 6)),(4,1,t7),(5,1,t8),(6,1,t9)]) 7,
 iz (.store 7 t6 x3) 15] false)
 .ret)⟩
def a5b:u0:=⟨2,34,[.tmp 4,.tmp 5],
 .seq (.b9 [i 3 (.box 7 t1) 0,
 i 4 (.mv (.c (.emp 7))) 0,
 i 5 (.mv (.c (I 0))) 2] false)
 (.seq (.b9 [i 9 (mv t0) 0,
 i 10 (.load true 7 t3) 0,
 i 11 (.V7 1 2 [I 0] [(0,.c (I 7)),(1,.c (I 8))]) 0,
 i 12 (.call (.f x9) [t9,x3,A6]) 7,
 i 8 (mv B2) 15,
 i 13 (.extract t8 0) 31,
 i 14 (.extract t8 1) 31,
 i 6 (.alloc z4) 0,
 iz (.store 8 t6 D9) 191,
 i 7 (mv F6) 511] false)
 (.seq (.seq (.b9 [i 15 (mv t7) 0,
 i 16 (.bin .neq K0 (.c (I 0))) 1] false)
 (.cond K6
 (.seq (.b9 [i 17 (mv t7) 0,
 i 4 (.mv (.c (.emp 7))) 0,
 i 5 (mv H5) 3] false)
 .ret)
 .skip))
 (.seq (.b9 [i 18 (.load true 8 t6) 0,
 i 19 (.call (.f u4) [N1]) 1,
 i 20 (.field false 2 1 N7) 3,
 i 21 (.b8 t3 5) 0,
 i 22 (.load false 1 P1) 8,
 i 23 (.b8 t3 5) 0,
 i 24 (.load false 1 t23) 32,
 i 25 (.b8 t3 6) 0,
 i 26 (.load false 1 t25) 128,
 i 27 (.bin .add t24 t26) 480,
 i 28 (.b8 t3 5) 0,
 i 29 (.load false 1 t28) 1024,
 i 30 (.b8 t3 6) 0,
 i 31 (.load false 1 t30) 4096,
 i 32 (.bin .add t29 t31) 15360,
 i 33 (.slice 7 P0 (some U0) (some t27) (some t32)) 32767,
 i 4 (mv t33) 65535,
 i 5 (.mv (.c (I 0))) 131071] true)
 .ret)))⟩
def a2h:u0:=⟨4,47,[.tmp 8,.tmp 9],
 .seq (.b9 [i 5 (.box 7 t1) 0,
 i 8 (.mv (.c (.emp 7))) 0,
 i 9 (.mv (.c (I 0))) 2] false)
 (.seq (.b9 [i 14 (mv t0) 0,
 i 15 (.load true 7 t5) 0,
 i 16 (.V7 1 1 [I 0] [(0,.c (I 6))]) 0,
 i 17 (.call (.f x9) [F6,K0,K6]) 7,
 i 13 (mv H5) 15,
 i 18 (.extract D9 0) 31,
 i 19 (.extract D9 1) 31,
 i 10 (.alloc z4) 0,
 iz (.store 8 x3 N1) 191,
 i 11 (mv N7) 511] false)
 (.seq (.seq (.b9 [i 20 (mv A6) 0,
 i 21 (.bin .eql P0 (.c (I 0))) 1] false)
 (.cond P1
 (.b9 [i 22 (.load true 8 x3) 0,
 i 23 (mv t2) 0,
 i 24 (mv t3) 0,
 i 25 (.N0 t24) 4,
 i 26 (.call (.f U6) [U0,t23,t25]) 15,
 i 11 (mv t26) 31] false)
 .skip))
 (.seq (.seq (.b9 [i 27 (mv A6) 0,
 i 28 (.bin .neq t27 (.c (I 0))) 1] false)
 (.cond t28
 (.seq (.b9 [i 29 (mv A6) 0,
 i 8 (.mv (.c (.emp 7))) 0,
 i 9 (mv t29) 3] false)
 .ret)
 .skip))
 (.seq (.b9 [i 30 (.load true 8 x3) 0,
 i 31 (.call (.f u4) [t30]) 1,
 i 12 (.alloc z2) 0,
 iz (.store 7 B2 t31) 7] false)
 (.seq (.b9 [i 32 (.b8 B2 1) 0,
 i 33 (.load false 1 t32) 1,
 i 34 (.s2b t33) 3,
 i 35 (.b8 t5 5) 0,
 i 36 (.load false 1 t35) 8,
 i 37 (mv t2) 0,
 i 38 (.bin .add t36 t37) 56,
 i 39 (mv t3) 0,
 i 40 (.s2b t39) 128,
 i 41 (.call (.f J5) [t34,t38,t40]) 511,
 i 42 (.b2s t41) 1023,
 i 43 (.b8 B2 1) 2047,
 iz (.store 1 t43 t42) 4095] false)
 (.seq (.b9 [i 44 (.load true 8 x3) 0,
 i 45 (.load true 7 B2) 0,
 i 46 (.call (.f w6) [t44,t45]) 3,
 i 8 (mv t46) 7,
 i 9 (.mv (.c (I 0))) 15] false)
 .ret))))))⟩
def a5c:u0:=⟨2,34,[.cell 4 true 7,.tmp 5],
 .seq (.b9 [i 3 (.box 7 t1) 0,
 i 4 (.alloc z0) 0,
 i 5 (.mv (.c (I 0))) 0] false)
 (.seq (.seq (.b9 [i 8 (mv t0) 0,
 i 9 (.load true 7 t3) 0,
 i 10 (.call (.f C4) [t8,t9]) 3,
 i 11 (.not x3) 7] false)
 (.cond A6
 (.seq (.b9 [i 12 (.build z0 []) 0,
 iz (.store 7 t4 B2) 1,
 i 5 (.mv (.c (I 2))) 3] false)
 .ret)
 .skip))
 (.seq (.seq (.b9 [i 13 (.b8 t3 0) 0,
 i 14 (.load false 1 D9) 1,
 i 15 (.bin .neq F6 (.c (I 6))) 3] false)
 (.cond K0
 (.seq (.b9 [i 16 (.load true 7 t3) 0,
 i 17 (.call (.f O7) [K6]) 1,
 i 18 (.extract H5 0) 3,
 i 19 (.extract H5 1) 3,
 iz (.store 7 t4 N1) 15,
 i 5 (mv N7) 31] false)
 .ret)
 .skip))
 (.seq (.b9 [i 21 (mv t0) 0,
 i 22 (.load true 7 t3) 0,
 i 23 (.call (.f J3) [P1,U0]) 3,
 i 20 (mv t23) 7,
 i 24 (.extract P0 0) 15,
 i 25 (.extract P0 1) 15,
 i 6 (mv t24) 31,
 i 7 (mv t25) 127] false)
 (.seq (.seq (.b9 [i 26 (mv t6) 0,
 i 27 (.N0 t26) 1,
 i 28 (.bin .gtr t27 (.c (I 100))) 3] false)
 (.cond t28
 (.seq (.b9 [i 29 (.build z0 []) 0,
 iz (.store 7 t4 t29) 1,
 i 5 (.mv (.c (I 23))) 3] false)
 .ret)
 .skip))
 (.seq (.b9 [i 30 (mv t6) 0,
 i 31 (.call (.f P8) [t30,.c (.pv (.bool false))]) 1,
 i 32 (.extract t31 0) 3,
 i 33 (.extract t31 1) 3,
 iz (.store 7 t4 t32) 15,
 i 5 (mv t33) 31] false)
 .ret)))))⟩
def a3E:u0:=⟨3,45,[.cell 6 true 7,.tmp 7,.tmp 8],
 .seq (.b9 [i 4 (.box 7 t1) 0,
 i 5 (.box 7 t2) 0,
 i 6 (.alloc z0) 0,
 i 7 (.mv (.c (.pv (.bool false)))) 0,
 i 8 (.mv (.c (I 0))) 8] false)
 (.seq (.b9 [i 14 (mv t0) 0,
 i 15 (.load true 7 t4) 0,
 i 16 (.V7 1 1 [I 0] [(0,.c (I 9))]) 0,
 i 17 (.call (.f x9) [F6,K0,K6]) 7,
 i 13 (mv H5) 15,
 i 18 (.extract D9 0) 31,
 i 19 (.extract D9 1) 31,
 i 9 (.alloc z4) 0,
 iz (.store 8 t9 N1) 191,
 i 10 (mv N7) 511] false)
 (.seq (.seq (.b9 [i 20 (mv x3) 0,
 i 21 (.bin .neq P0 (.c (I 0))) 1] false)
 (.cond P1
 (.seq (.b9 [i 22 (.build z0 []) 0,
 i 23 (mv x3) 0,
 iz (.store 7 t6 U0) 1,
 i 7 (.mv (.c (.pv (.bool false)))) 5,
 i 8 (mv t23) 15] false)
 .ret)
 .skip))
 (.seq (.b9 [i 24 (.load true 8 t9) 0,
 i 25 (.call (.f u4) [t24]) 1,
 i 11 (.alloc z2) 0,
 iz (.store 7 A6 t25) 7] false)
 (.seq (.b9 [i 26 (.b8 A6 3) 0,
 i 27 (.load false 1 t26) 1,
 i 28 (.load true 7 t5) 0,
 i 29 (.call (.f v8) [t27,t28]) 7,
 i 12 (mv t29) 15] false)
 (.seq (.seq (.b9 [i 30 (mv B2) 0,
 i 31 (.bin .lss t30 (.c (I 0))) 1,
 i 32 (mv t31) 3,
 ig 33 (mv B2) 32 false 7,
 ig 34 (.b8 A6 4) 32 false 7,
 ig 35 (.load false 1 t34) 32 false 23,
 ig 36 (.n9 t35) 32 false 55,
 ig 37 (.bin .geq t33 t36) 32 false 127,
 i 38 (.pick t32 (.c (.pv (.bool true))) t37) 255] false)
 (.cond t38
 (.seq (.b9 [i 39 (.build z0 []) 0,
 iz (.store 7 t6 t39) 1,
 i 7 (.mv (.c (.pv (.bool false)))) 3,
 i 8 (.mv (.c (I 0))) 7] false)
 .ret)
 .skip))
 (.seq (.b9 [i 40 (.b8 A6 4) 0,
 i 41 (.load false 1 t40) 1,
 i 42 (mv B2) 0,
 i 43 (.m6 7 t41 t42) 7,
 i 44 (.load true 7 t43) 15,
 iz (.store 7 t6 t44) 31,
 i 7 (.mv (.c (.pv (.bool true)))) 63,
 i 8 (.mv (.c (I 0))) 127] false)
 .ret))))))⟩
def a2z:u0:=⟨4,84,[.tmp 8,.tmp 9],
 .seq (.b9 [i 5 (.box 7 t1) 0,
 i 6 (.box 7 t2) 0,
 i 7 (.box 7 t3) 0,
 i 8 (.mv (.c (.emp 7))) 0,
 i 9 (.mv (.c (I 0))) 8] false)
 (.seq (.b9 [i 15 (mv t0) 0,
 i 16 (.load true 7 t5) 0,
 i 17 (.V7 1 1 [I 0] [(0,.c (I 9))]) 0,
 i 18 (.call (.f x9) [K0,K6,H5]) 7,
 i 14 (mv N1) 15,
 i 19 (.extract F6 0) 31,
 i 20 (.extract F6 1) 31,
 i 10 (.alloc z4) 0,
 iz (.store 8 x3 N7) 191,
 i 11 (mv P0) 511] false)
 (.seq (.seq (.b9 [i 21 (mv A6) 0,
 i 22 (.bin .neq P1 (.c (I 0))) 1] false)
 (.cond U0
 (.seq (.b9 [i 23 (mv A6) 0,
 i 8 (.mv (.c (.emp 7))) 0,
 i 9 (mv t23) 3] false)
 .ret)
 .skip))
 (.seq (.b9 [i 24 (.load true 8 x3) 0,
 i 25 (.call (.f u4) [t24]) 1,
 i 12 (.alloc z2) 0,
 iz (.store 7 B2 t25) 7] false)
 (.seq (.seq (.b9 [i 26 (.b8 B2 3) 0,
 i 27 (.load false 1 t26) 1,
 i 28 (.load true 7 t6) 0,
 i 29 (.call (.f v8) [t27,t28]) 7,
 i 13 (mv t29) 15] false)
 (.seq (.b9 [i 30 (mv D9) 0,
 i 31 (.bin .geq t30 (.c (I 0))) 1,
 i 32 (mv t31) 3,
 ig 33 (mv D9) 32 true 7,
 ig 34 (.b8 B2 4) 32 true 7,
 ig 35 (.load false 1 t34) 32 true 23,
 ig 36 (.n9 t35) 32 true 55,
 ig 37 (.bin .lss t33 t36) 32 true 127,
 i 38 (.pick t32 t37 (.c (.pv (.bool false)))) 255] false)
 (.cond t38
 (.seq (.b9 [i 39 (.b8 B2 4) 0,
 i 40 (.load false 1 t39) 1,
 i 41 (mv D9) 0,
 i 42 (.load true 7 t7) 0,
 i 43 (.V7 7 1 z0 [(0,t42)]) 8,
 i 44 (.call (.f C1) [t40,t41,t43]) 31,
 i 45 (.b8 B2 4) 63,
 iz (.store 1 t45 t44) 127] false)
 (.seq (.b9 [i 46 (.load true 8 x3) 0,
 i 47 (.load true 7 B2) 0,
 i 48 (.call (.f w6) [t46,t47]) 3,
 i 8 (mv t48) 7,
 i 9 (.mv (.c (I 0))) 15] false)
 .ret))
 .skip)))
 (.seq (.seq (.b9 [i 49 (.b8 B2 3) 0,
 i 50 (.load false 1 t49) 1,
 i 51 (.n9 t50) 3,
 i 52 (.b8 B2 5) 0,
 i 53 (.load false 1 t52) 8,
 i 54 (.bin .geq t51 t53) 31] false)
 (.cond t54
 (.seq (.b9 [i 8 (.mv (.c (.emp 7))) 0,
 i 9 (.mv (.c (I 30))) 1] false)
 .ret)
 .skip))
 (.seq (.b9 [i 55 (.b8 B2 3) 0,
 i 56 (.load false 1 t55) 1,
 i 57 (.b8 B2 3) 0,
 i 58 (.load false 1 t57) 4,
 i 59 (.n9 t58) 12,
 i 60 (.b8 B2 3) 0,
 i 61 (.load false 1 t60) 32,
 i 62 (.n9 t61) 96,
 i 63 (.slice 7 t56 none (some t59) (some t62)) 255,
 i 64 (.load true 7 t6) 0,
 i 65 (.V7 7 1 z0 [(0,t64)]) 512,
 i 66 (.append 7 64 t63 t65) 2047,
 i 67 (.b8 B2 3) 4095,
 iz (.store 1 t67 t66) 8191] true)
 (.seq (.b9 [i 68 (.b8 B2 4) 0,
 i 69 (.load false 1 t68) 1,
 i 70 (.b8 B2 4) 0,
 i 71 (.load false 1 t70) 4,
 i 72 (.n9 t71) 12,
 i 73 (.b8 B2 4) 0,
 i 74 (.load false 1 t73) 32,
 i 75 (.n9 t74) 96,
 i 76 (.slice 7 t69 none (some t72) (some t75)) 255,
 i 77 (.load true 7 t7) 0,
 i 78 (.V7 7 1 z0 [(0,t77)]) 512,
 i 79 (.append 7 64 t76 t78) 2047,
 i 80 (.b8 B2 4) 4095,
 iz (.store 1 t80 t79) 8191] true)
 (.seq (.b9 [i 81 (.load true 8 x3) 0,
 i 82 (.load true 7 B2) 0,
 i 83 (.call (.f w6) [t81,t82]) 3,
 i 8 (mv t83) 7,
 i 9 (.mv (.c (I 0))) 15] false)
 .ret))))))))⟩
def a5f:u0:=⟨1,5,[.cell 2 true 7],
 .seq (.b9 [i 2 (.alloc z0) 0] false)
 (.seq (.b9 [i 3 (mv t0) 0,
 i 4 (.build z0 [(0,1,.c (I 5)),(3,1,t3)]) 1,
 iz (.store 7 t2 t4) 3] false)
 .ret)⟩
def a7O:u0:=⟨2,24,[.tmp 4,.tmp 5,.tmp 6],
 .seq (.b9 [i 3 (.box 7 t1) 0,
 i 4 (.mv (.c (.emp 7))) 0,
 i 5 (.mv (.c (I 0))) 2,
 i 6 (.mv (.c (I 0))) 6] false)
 (.seq (.seq (.b9 [i 7 (mv t0) 0,
 i 8 (.call (.f U5) [t7]) 1,
 i 9 (.load true 7 t3) 0,
 i 10 (.call (.f a1X) [t9]) 7,
 i 11 (.bin .add t8 x3) 15,
 i 12 (.bin .gtr A6 (.c (I 20000))) 31] true)
 (.cond B2
 (.seq (.b9 [i 4 (.mv (.c (.emp 7))) 0,
 i 5 (.mv (.c (I 0))) 1,
 i 6 (.mv (.c (I 27))) 3] false)
 .ret)
 .skip))
 (.seq (.b9 [i 13 (mv t0) 0,
 i 14 (mv t0) 0,
 i 15 (.n9 F6) 2,
 i 16 (mv t0) 0,
 i 17 (.n9 K6) 8,
 i 18 (.slice 7 D9 none (some K0) (some H5)) 31,
 i 19 (.load true 7 t3) 0,
 i 20 (.V7 7 1 z2 [(0,N7)]) 64,
 i 21 (.append 7 112 N1 P0) 255,
 i 22 (mv t0) 0,
 i 23 (.n9 U0) 512,
 i 4 (mv P1) 511,
 i 5 (mv t23) 4095,
 i 6 (.mv (.c (I 0))) 8191] true)
 .ret))⟩
def a4Z:u0:=⟨1,32,[.tmp 2],
 .seq (.b9 [i 2 (.mv (.c (I 0))) 0] false)
 (.scope
 (.seq (.seq (.b9 [i 9 (mv t0) 0,
 i 10 (.call (.f U5) [t9]) 1,
 i 11 (.bin .gtr x3 (.c (I 20000))) 3] false)
 (.cond A6
 (.seq (.b9 [i 2 (.mv (.c (I 210))) 0] false)
 .ret)
 .skip))
 (.seq (.b9 [i 12 (mv t0) 0,
 i 13 (.build [.emp 7] [(0,1,B2)]) 1,
 i 3 (.alloc [.emp 7]) 0,
 iz (.store 1 t3 D9) 7,
 i 4 (.mv (.c (I 0))) 15] false)
 (.seq .skip
 (.seq (.seq (.b9 [i 14 (mv t0) 0,
 i 15 (.n9 F6) 1,
 i 16 (.mv (.c (I 0))) 0] false)
 (.block 0
 (.loop [3,4,14,15,16]
 (.seq (.b9 [i 17 (.bin .lss K6 K0) 0] false)
 (.seq (.cond H5
 .skip
 (.exit 0))
 (.seq (.block 1
 (.seq (.b9 [i 18 (.m6 7 F6 K6) 0,
 i 19 (.load true 7 N1) 1,
 i 6 (.alloc z2) 0,
 iz (.store 7 t6 N7) 7] false)
 (.seq (.b9 [i 20 (.build [.pv .nilFunc,.pv .nilFunc,.pv .nilFunc] [(0,1,.f R4),(1,1,.f J6),(2,1,.f O6)]) 0,
 i 21 (.mv (.c (I 0))) 0] false)
 (.block 2
 (.loop [3,4,6,14,15,16,20,21]
 (.seq (.b9 [i 22 (.bin .lss P1 (.c (I 3))) 0] false)
 (.seq (.cond U0
 .skip
 (.exit 2))
 (.seq (.block 3
 (.seq (.b9 [i 23 (.index false 3 1 P0 P1) 0,
 i 8 (mv t23) 1] false)
 (.seq (.b9 [i 24 (mv t8) 0,
 i 25 (.load true 1 t3) 0,
 i 26 (.load true 7 t6) 0,
 i 27 (.call t24 [t25,t26]) 7,
 i 28 (.not t27) 15] false)
 (.cond t28
 (.seq (.b9 [i 4 (.mv (.c (I 210))) 0] false)
 (.exit 0))
 .skip))))
 (.b9 [i 29 (.bin .add P1 (.c (I 1))) 0,
 i 21 (mv t29) 1] false)))))))))
 (.b9 [i 30 (.bin .add K6 (.c (I 1))) 0,
 i 16 (mv t30) 1] false)))))))
 (.seq (.b9 [i 31 (mv t4) 0,
 i 2 (mv t31) 1] false)
 .ret))))))⟩
def a5e:u0:=⟨1,18,[.tmp 2],
 .seq (.b9 [i 2 (.mv (.c (I 0))) 0] false)
 (.seq (.b9 [i 3 (.mv (.c (I 0))) 0] false)
 (.seq (.seq (.b9 [i 6 (mv t0) 0,
 i 7 (.n9 t6) 1,
 i 8 (.mv (.c (I 0))) 0] false)
 (.block 0
 (.loop [3,6,7,8]
 (.seq (.b9 [i 9 (.bin .lss t8 t7) 0] false)
 (.seq (.cond t9
 .skip
 (.exit 0))
 (.seq (.block 1
 (.seq (.b9 [i 10 (.m6 7 t6 t8) 0,
 i 11 (.load true 7 x3) 1,
 i 5 (.alloc z2) 0,
 iz (.store 7 t5 A6) 7] false)
 (.b9 [i 12 (mv t3) 0,
 i 13 (.load true 7 t5) 0,
 i 14 (.call (.f a1X) [D9]) 2,
 i 15 (.bin .add B2 F6) 7,
 i 3 (mv K0) 15] false)))
 (.b9 [i 16 (.bin .add t8 (.c (I 1))) 0,
 i 8 (mv K6) 1] false)))))))
 (.seq (.b9 [i 17 (mv t3) 0,
 i 2 (mv H5) 1] false)
 .ret)))⟩
def Z1:u0:=⟨1,29,[.tmp 2],
 .seq (.b9 [i 1 (.box 3 t0) 0,
 i 2 (.mv (.c (.emp 7))) 0] false)
 (.seq (.b9 [i 5 (.V7 1 2 [.pv (.str [])] [(0,.c (.pv (.str [97,100,100]))),(1,.c (.pv (.str [112,111,112])))]) 0,
 i 6 (.call (.f B3) [t5]) 1,
 i 3 (mv t6) 3] false)
 (.seq (.seq (.b9 [i 4 (.mv (.c (I 0))) 0] false)
 (.block 0
 (.loop [1,3,4]
 (.seq (.seq (.b9 [i 7 (mv t4) 0,
 i 8 (.b8 t1 0) 0,
 i 9 (.load false 1 t8) 2,
 i 10 (.n9 t9) 6,
 i 11 (.bin .lss t7 x3) 15,
 i 12 (mv A6) 31,
 ig 13 (mv t4) 12 true 63,
 ig 14 (.bin .lss D9 (.c (I 10))) 12 true 127,
 i 15 (.pick B2 F6 (.c (.pv (.bool false)))) 255] false)
 (.cond K0
 .skip
 (.exit 0)))
 (.seq (.block 1
 (.b9 [i 18 (mv t3) 0,
 i 19 (.b8 t1 0) 0,
 i 20 (.load false 1 N7) 2,
 i 21 (mv t4) 0,
 i 22 (.m6 5 P0 P1) 14,
 i 23 (.load true 5 U0) 30,
 i 24 (mv t3) 0,
 i 25 (.call (.f E4) [t23,t24]) 126,
 i 26 (.V7 7 1 z2 [(0,t25)]) 254,
 i 27 (.append 7 112 N1 t26) 511,
 i 3 (mv t27) 1023] false))
 (.b9 [i 16 (mv t4) 0,
 i 17 (.bin .add K6 (.c (I 1))) 1,
 i 4 (mv H5) 3] false))))))
 (.seq (.b9 [i 28 (mv t3) 0,
 i 2 (mv t28) 1] false)
 .ret)))⟩
def a4B:u0:=⟨2,84,[.cell 4 true 7],
 .seq (.b9 [i 2 (.box 5 t0) 0,
 i 4 (.alloc z0) 0] false)
 (.seq (.b9 [i 6 (.b8 t2 3) 0,
 i 7 (.load false 1 t6) 1,
 i 8 (.conv .i64 t7) 3,
 i 5 (mv t8) 7] false)
 (.seq (.seq (.b9 [i 9 (.b8 t2 0) 0,
 i 10 (.load false 1 t9) 1,
 i 11 (.bin .rem x3 (.c (.pv (.int .u8 (16))))) 3] false)
 (.block 0
 (.seq (.b9 [i 13 (.bin .eql A6 (.c (.pv (.int .u8 (0))))) 0,
 i 12 (mv D9) 1] false)
 (.cond B2
 (.seq (.b9 [i 14 (.build z0 [(0,1,.c (I 0))]) 0,
 iz (.store 7 t4 F6) 1] false)
 .ret)
 (.seq (.b9 [i 16 (.bin .eql A6 (.c (.pv (.int .u8 (1))))) 0,
 i 15 (mv K6) 1] false)
 (.cond K0
 (.seq (.b9 [i 17 (.build z0 [(0,1,.c (I 1))]) 0,
 iz (.store 7 t4 H5) 1] false)
 .ret)
 (.seq (.b9 [i 19 (.bin .eql A6 (.c (.pv (.int .u8 (2))))) 0,
 i 18 (mv N7) 1] false)
 (.cond N1
 (.seq (.b9 [i 20 (.b8 t2 1) 0,
 i 21 (.load false 1 P0) 1,
 i 22 (.bin .rem P1 (.c (.pv (.int .u8 (2))))) 3,
 i 23 (.conv .i64 U0) 7,
 i 24 (.build z0 [(0,1,.c (I 2)),(2,1,t23)]) 15,
 iz (.store 7 t4 t24) 31] false)
 .ret)
 (.seq (.seq (.b9 [i 26 (.bin .eql A6 (.c (.pv (.int .u8 (3))))) 0,
 i 25 (mv t26) 1] false)
 (.cond t25
 .skip
 (.b9 [i 27 (.bin .eql A6 (.c (.pv (.int .u8 (4))))) 0,
 i 25 (mv t27) 1] false)))
 (.cond t25
 (.seq (.b9 [i 28 (mv t5) 0,
 i 29 (.bin .rem t28 (.c (I 10))) 1,
 i 30 (.build z0 [(0,1,.c (I 3)),(2,1,t29)]) 3,
 iz (.store 7 t4 t30) 7] false)
 .ret)
 (.seq (.b9 [i 32 (.bin .eql A6 (.c (.pv (.int .u8 (5))))) 0,
 i 31 (mv t32) 1] false)
 (.cond t31
 (.seq (.b9 [i 33 (mv t5) 0,
 i 34 (.build z0 [(0,1,.c (I 3)),(2,1,t33)]) 1,
 iz (.store 7 t4 t34) 3] false)
 .ret)
 (.seq (.b9 [i 36 (.bin .eql A6 (.c (.pv (.int .u8 (6))))) 0,
 i 35 (mv t36) 1] false)
 (.cond t35
 (.seq (.b9 [i 37 (mv t5) 0,
 i 38 (.bin .rem t37 (.c (I 1048576))) 1,
 i 39 (.build z0 [(0,1,.c (I 4)),(2,1,t38)]) 3,
 iz (.store 7 t4 t39) 7] false)
 .ret)
 (.seq (.b9 [i 41 (.bin .eql A6 (.c (.pv (.int .u8 (7))))) 0,
 i 40 (mv t41) 1] false)
 (.cond t40
 (.seq (.b9 [i 42 (mv t5) 0,
 i 43 (.build z0 [(0,1,.c (I 4)),(2,1,t42)]) 1,
 iz (.store 7 t4 t43) 3] false)
 .ret)
 (.seq (.seq (.b9 [i 45 (.bin .eql A6 (.c (.pv (.int .u8 (8))))) 0,
 i 44 (mv t45) 1] false)
 (.cond t44
 .skip
 (.b9 [i 46 (.bin .eql A6 (.c (.pv (.int .u8 (9))))) 0,
 i 44 (mv t46) 1] false)))
 (.cond t44
 (.seq (.b9 [i 47 (.b8 t2 0) 0,
 i 48 (.load false 1 t47) 1,
 i 49 (.bin .rem t48 (.c (.pv (.int .u8 (16))))) 3,
 i 50 (.bin .eql t49 (.c (.pv (.int .u8 (9))))) 7,
 i 51 (.b8 t2 1) 0,
 i 52 (.load false 1 t51) 16,
 i 53 (.conv .i64 t52) 48,
 i 54 (.bin .rem t53 (.c (I 8))) 112,
 i 55 (.a7I 8 1 (.g 0) t54) 240,
 i 56 (.load false 1 t55) 496,
 i 57 (.build z0 [(0,1,.c (I 5)),(1,1,t50),(3,1,t56)]) 1023,
 iz (.store 7 t4 t57) 2047] true)
 .ret)
 (.seq (.b9 [i 59 (.bin .eql A6 (.c (.pv (.int .u8 (10))))) 0,
 i 58 (mv t59) 1] false)
 (.cond t58
 (.seq (.b9 [i 60 (mv t1) 0,
 i 61 (.load true 5 t2) 0,
 i 62 (.call (.f J7) [t60,.c (I 6),.c (I 1),t61]) 3,
 iz (.store 7 t4 t62) 7] false)
 .ret)
 (.seq (.b9 [i 64 (.bin .eql A6 (.c (.pv (.int .u8 (11))))) 0,
 i 63 (mv t64) 1] false)
 (.cond t63
 (.seq (.b9 [i 65 (mv t1) 0,
 i 66 (.load true 5 t2) 0,
 i 67 (.call (.f J7) [t65,.c (I 7),.c (I 2),t66]) 3,
 iz (.store 7 t4 t67) 7] false)
 .ret)
 (.seq (.b9 [i 69 (.bin .eql A6 (.c (.pv (.int .u8 (12))))) 0,
 i 68 (mv t69) 1] false)
 (.cond t68
 (.seq (.b9 [i 70 (mv t1) 0,
 i 71 (.load true 5 t2) 0,
 i 72 (.call (.f J7) [t70,.c (I 8),.c (I 2),t71]) 3,
 iz (.store 7 t4 t72) 7] false)
 .ret)
 (.seq (.b9 [i 74 (.bin .eql A6 (.c (.pv (.int .u8 (13))))) 0,
 i 73 (mv t74) 1] false)
 (.cond t73
 (.seq (.b9 [i 75 (mv t1) 0,
 i 76 (.load true 5 t2) 0,
 i 77 (.call (.f J7) [t75,.c (I 9),.c (I 3),t76]) 3,
 iz (.store 7 t4 t77) 7] false)
 .ret)
 (.seq (.b9 [i 79 (.bin .eql A6 (.c (.pv (.int .u8 (14))))) 0,
 i 78 (mv t79) 1] false)
 (.cond t78
 (.seq (.b9 [i 80 (.build z0 [(0,1,.c (I 10)),(1,1,.c (.pv (.bool true))),(3,1,.c (.pv (.str [97,100,100])))]) 0,
 iz (.store 7 t4 t80) 1] false)
 .ret)
 .skip))))))))))))))))))))))))))))
 (.seq (.b9 [i 81 (mv t1) 0,
 i 82 (.load true 5 t2) 0,
 i 83 (.call (.f J7) [t81,.c (I 11),.c (I 4),t82]) 3,
 iz (.store 7 t4 t83) 7] false)
 .ret)))⟩
def a3F:u0:=⟨2,51,[.tmp 4],
 .seq (.b9 [i 3 (.box 7 t1) 0,
 i 4 (.mv (.c (.pv (.bool false)))) 0] false)
 (.seq (.seq (.b9 [i 6 (.load true 7 t3) 0,
 i 7 (.call (.f u5) [t6]) 1,
 i 8 (.bin .neq t7 (.c (I 0))) 3] false)
 (.cond t8
 (.seq (.b9 [i 4 (.mv (.c (.pv (.bool false)))) 0] false)
 .ret)
 .skip))
 (.seq (.b9 [i 9 (.b8 t3 0) 0,
 i 10 (.load false 1 t9) 1,
 i 11 (.call (.f E9) [x3]) 3,
 i 5 (mv A6) 7] false)
 (.seq (.seq (.b9 [i 12 (mv t5) 0,
 i 13 (.bin .eql B2 (.c (I 0))) 1] false)
 (.cond D9
 (.seq (.b9 [i 4 (.mv (.c (.pv (.bool true)))) 0] false)
 .ret)
 .skip))
 (.seq (.seq (.b9 [i 14 (.b8 t3 4) 0,
 i 15 (.load false 1 F6) 1,
 i 16 (mv t0) 0,
 i 17 (.n9 K6) 4,
 i 18 (.bin .geq K0 H5) 15,
 i 19 (mv N1) 31,
 ig 20 (mv t0) 19 false 63,
 ig 21 (.b8 t3 4) 19 false 63,
 ig 22 (.load false 1 P1) 19 false 191,
 ig 23 (.m6 7 P0 U0) 19 false 511,
 ig 24 (.b8 t23 0) 19 false 1023,
 ig 25 (.load false 1 t24) 19 false 2047,
 ig 26 (mv t5) 19 false 63,
 ig 27 (.bin .neq t25 t26) 19 false 8191,
 i 28 (.pick N7 (.c (.pv (.bool true))) t27) 16383] false)
 (.cond t28
 (.seq (.b9 [i 4 (.mv (.c (.pv (.bool false)))) 0] false)
 .ret)
 .skip))
 (.seq (.b9 [i 29 (.b8 t3 0) 0,
 i 30 (.load false 1 t29) 1,
 i 31 (.bin .eql t30 (.c (I 9))) 3,
 i 32 (mv t31) 7,
 ig 33 (.b8 t3 0) 32 false 15,
 ig 34 (.load false 1 t33) 32 false 31,
 ig 35 (.bin .eql t34 (.c (I 11))) 32 false 63,
 i 36 (.pick t32 (.c (.pv (.bool true))) t35) 127,
 i 37 (mv t36) 255,
 ig 38 (.b8 t3 5) 37 false 511,
 ig 39 (.load false 1 t38) 37 false 1023,
 ig 40 (.b8 t3 6) 37 false 511,
 ig 41 (.load false 1 t40) 37 false 2559,
 ig 42 (.bin .add t39 t41) 37 false 8191,
 ig 43 (mv t0) 37 false 511,
 ig 44 (.b8 t3 4) 37 false 511,
 ig 45 (.load false 1 t44) 37 false 33279,
 ig 46 (.m6 7 t43 t45) 37 false 115199,
 ig 47 (.load true 7 t46) 37 false 246271,
 ig 48 (.call (.f K4) [t47]) 37 false 508415,
 ig 49 (.bin .leq t42 t48) 37 false 1048575,
 i 50 (.pick t37 (.c (.pv (.bool true))) t49) 2097151,
 i 4 (mv t50) 4194303] true)
 .ret)))))⟩
def a1m:u0:=⟨2,42,[.tmp 4,.tmp 5],
 .seq (.b9 [i 2 (.box 7 t0) 0,
 i 3 (.box 7 t1) 0,
 i 4 (.mv (.c (I 0))) 0,
 i 5 (.mv (.c (I 0))) 4] false)
 (.seq (.seq (.b9 [i 9 (.load true 7 t2) 0,
 i 10 (.call (.f u5) [t9]) 1,
 i 11 (.bin .neq x3 (.c (I 0))) 3,
 i 12 (mv A6) 7,
 ig 13 (.load true 7 t3) 12 false 15,
 ig 14 (.call (.f u5) [D9]) 12 false 31,
 ig 15 (.bin .neq F6 (.c (I 0))) 12 false 63,
 i 16 (.pick B2 (.c (.pv (.bool true))) K0) 127] false)
 (.cond K6
 (.seq (.b9 [i 4 (.mv (.c (I 0))) 0,
 i 5 (.mv (.c (I 200))) 1] false)
 .ret)
 .skip))
 (.seq (.b9 [i 18 (.load true 7 t2) 0,
 i 19 (.call (.f D7) [N1]) 1,
 i 17 (mv N7) 3,
 i 20 (.extract H5 0) 7,
 i 21 (.extract H5 1) 7,
 i 6 (mv P0) 15,
 i 7 (mv P1) 63] false)
 (.seq (.seq (.b9 [i 22 (mv t7) 0,
 i 23 (.bin .neq U0 (.c (I 0))) 1] false)
 (.cond t23
 (.seq (.b9 [i 24 (mv t7) 0,
 i 4 (.mv (.c (I 0))) 0,
 i 5 (mv t24) 3] false)
 .ret)
 .skip))
 (.seq (.b9 [i 26 (.load true 7 t3) 0,
 i 27 (.call (.f D7) [t26]) 1,
 i 25 (mv t27) 3,
 i 28 (.extract t25 0) 7,
 i 29 (.extract t25 1) 7,
 i 8 (mv t28) 15,
 i 7 (mv t29) 63] false)
 (.seq (.block 0
 (.seq (.b9 [i 31 (mv t7) 0,
 i 32 (.bin .neq t31 (.c (I 0))) 1,
 i 30 (mv t32) 3] false)
 (.cond t30
 (.seq (.b9 [i 33 (mv t7) 0,
 i 4 (.mv (.c (I 0))) 0,
 i 5 (mv t33) 3] false)
 .ret)
 (.seq (.b9 [i 35 (mv t6) 0,
 i 36 (mv t8) 0,
 i 37 (.bin .lss t35 t36) 3,
 i 34 (mv t37) 7] false)
 (.cond t34
 (.seq (.b9 [i 4 (.mv (.c (I (-1)))) 0,
 i 5 (.mv (.c (I 0))) 1] false)
 .ret)
 (.seq (.b9 [i 39 (mv t6) 0,
 i 40 (mv t8) 0,
 i 41 (.bin .gtr t39 t40) 3,
 i 38 (mv t41) 7] false)
 (.cond t38
 (.seq (.b9 [i 4 (.mv (.c (I 1))) 0,
 i 5 (.mv (.c (I 0))) 1] false)
 .ret)
 .skip)))))))
 (.seq (.b9 [i 4 (.mv (.c (I 0))) 0,
 i 5 (.mv (.c (I 0))) 1] false)
 .ret))))))⟩
def a4c:u0:=⟨2,22,[.tmp 4,.tmp 5],
 .seq (.b9 [i 3 (.box 7 t1) 0,
 i 4 (.mv (.c (.pv (.str [])))) 0,
 i 5 (.mv (.c (.pv (.bool false)))) 2] false)
 (.seq (.seq (.b9 [i 8 (.b8 t3 0) 0,
 i 9 (.load false 1 t8) 1,
 i 10 (.bin .eql t9 (.c (I 5))) 3] false)
 (.cond x3
 (.seq (.b9 [i 11 (.b8 t3 3) 0,
 i 12 (.load false 1 A6) 1,
 i 4 (mv B2) 3,
 i 5 (.mv (.c (.pv (.bool true)))) 7] false)
 .ret)
 .skip))
 (.seq (.b9 [i 14 (mv t0) 0,
 i 15 (.load true 7 t3) 0,
 i 16 (.call (.f J3) [F6,K0]) 3,
 i 13 (mv K6) 7,
 i 17 (.extract D9 0) 15,
 i 18 (.extract D9 1) 15,
 i 6 (mv H5) 31,
 i 7 (mv N1) 127] false)
 (.seq (.b9 [i 19 (mv t6) 0,
 i 20 (mv t7) 0,
 i 21 (.bin .eql P0 (.c (I 0))) 2,
 i 4 (mv N7) 1,
 i 5 (mv P1) 15] false)
 .ret)))⟩
def a7r:u0:=⟨1,11,[.tmp 2],
 .seq (.b9 [i 1 (.box 7 t0) 0,
 i 2 (.mv (.c (I 0))) 0] false)
 (.seq (.seq (.b9 [i 3 (.b8 t1 0) 0,
 i 4 (.load false 1 t3) 1,
 i 5 (.bin .eql t4 (.c (I 3))) 3] false)
 (.cond t5
 (.seq (.b9 [i 6 (.b8 t1 2) 0,
 i 7 (.load false 1 t6) 1,
 i 8 (.bin .mul t7 (.c (I 65536))) 3,
 i 2 (mv t8) 7] false)
 .ret)
 .skip))
 (.seq (.b9 [i 9 (.b8 t1 2) 0,
 i 10 (.load false 1 t9) 1,
 i 2 (mv x3) 3] false)
 .ret))⟩
def a0u:u0:=⟨4,37,[],
 .seq (.b9 [i 4 (.box 7 t0) 0] false)
 (.seq (.seq (.b9 [i 6 (.load false 1 t1) 0,
 i 7 (.load true 7 t4) 0,
 i 8 (.call (.f C4) [t6,t7]) 3,
 i 9 (.not t8) 7,
 i 10 (mv t9) 15,
 ig 11 (.b8 t4 0) 10 false 31,
 ig 12 (.load false 1 A6) 10 false 63,
 ig 13 (.call (.f E9) [B2]) 10 false 127,
 ig 14 (.bin .eql D9 (.c (I 0))) 10 false 255,
 i 15 (.pick x3 (.c (.pv (.bool true))) F6) 511,
 i 16 (mv K0) 1023,
 ig 17 (.load false 1 t2) 16 false 2047,
 ig 18 (.b8 t4 4) 16 false 2047,
 ig 19 (.load false 1 N1) 16 false 6143,
 ig 20 (.m6 1 H5 N7) 16 false 16383,
 ig 21 (.load false 1 P0) 16 false 32767,
 i 22 (.pick K6 (.c (.pv (.bool true))) P1) 65535] false)
 (.cond U0
 .ret
 .skip))
 (.seq (.b9 [i 23 (.load false 1 t2) 0,
 i 24 (.b8 t4 4) 0,
 i 25 (.load false 1 t24) 2,
 i 26 (.m6 1 t23 t25) 7,
 iz (.store 1 t26 (.c (.pv (.bool true)))) 15] false)
 (.seq (.b9 [i 27 (.load false 1 t1) 0,
 i 28 (.b8 t4 4) 0,
 i 29 (.load false 1 t28) 2,
 i 30 (.m6 7 t27 t29) 7,
 i 31 (.load true 7 t30) 15,
 i 32 (.call (.f S9) [t31]) 31] false)
 (.block 0
 (.rng t32 [33]
 (.b9 [i 5 (.alloc z0) 0,
 iz (.store 7 t5 t33) 1] false)
 (.block 1
 (.b9 [i 34 (.load false 1 t3) 0,
 i 35 (.load true 7 t5) 0,
 i 36 (.call t34 [t35]) 3] false)))))))⟩
def X9:u0:=⟨1,6,[.tmp 2],
 .seq (.b9 [i 2 (.mv (.c (I 0))) 0] false)
 (.seq (.b9 [i 3 (.build [I 0,I 0,I 0,I 0,I 0,I 0,I 0,I 0,I 0,I 0,I 0,I 0,I 0,I 0] [(6,1,.c (I 1)),(7,1,.c (I 2)),(8,1,.c (I 2)),(9,1,.c (I 3)),(11,1,.c (I 4)),(13,1,.c (I 0))]) 0,
 i 4 (mv t0) 0,
 i 5 (.index false 14 1 t3 t4) 3,
 i 2 (mv t5) 7] false)
 .ret)⟩
def a3c:u0:=⟨1,4,[.tmp 2],
 .seq (.b9 [i 1 (.box 7 t0) 0,
 i 2 (.mv (.c (.pv .nilFunc))) 0] false)
 (.seq (.b9 [i 3 (.mkf (.func C9) [] [t1]) 0,
 i 2 (mv t3) 1] false)
 .ret)⟩
def a1F:u0:=⟨1,15,[.cell 2 true 67],
 .seq (.b9 [i 2 (.alloc z1) 0] false)
 (.seq (.b9 [i 4 (.call (.f B3) [.c (.emp 1)]) 0,
 i 5 (.build z2 [(0,1,.c (I 3)),(5,1,.c (I 3))]) 0,
 i 6 (.build z2 [(0,1,.c (I 1)),(1,1,.c (.pv (.str [70,70,111,110,116])))]) 0,
 i 7 (.V7 7 2 z2 [(0,t5),(1,t6)]) 6,
 i 8 (.append 7 112 t4 t7) 15,
 i 3 (mv t8) 31] false)
 (.seq (.b9 [i 9 (mv t3) 0,
 i 10 (.call (.f U7) [.c (I 0)]) 0,
 i 11 (.call (.f U7) [.c (I 1)]) 2,
 i 12 (.V7 7 2 z0 [(0,x3),(1,A6)]) 6,
 i 13 (mv t0) 0,
 i 14 (.build z1 [(2,1,t9),(1,1,B2),(0,1,D9)]) 31,
 iz (.store 67 t2 F6) 63] false)
 .ret))⟩
def a5g:u0:=⟨1,5,[.cell 2 true 7],
 .seq (.b9 [i 2 (.alloc z0) 0] false)
 (.seq (.b9 [i 3 (mv t0) 0,
 i 4 (.build z0 [(0,1,.c (I 5)),(3,1,t3)]) 1,
 iz (.store 7 t2 t4) 3] false)
 .ret)⟩
def a9J:u0:=⟨1,5,[.cell 2 true 7],
 .seq (.b9 [i 2 (.alloc z0) 0] false)
 (.seq (.b9 [i 3 (mv t0) 0,
 i 4 (.build z0 [(0,1,.c (I 9)),(4,1,t3)]) 1,
 iz (.store 7 t2 t4) 3] false)
 .ret)⟩
def a2i:u0:=⟨3,30,[.cell 6 true 7,.tmp 7],
 .seq (.b9 [i 3 (.box 67 t0) 0,
 i 5 (.box 7 t2) 0,
 i 6 (.alloc z0) 0,
 i 7 (.mv (.c (I 0))) 0] false)
 (.seq (.b9 [i 11 (.load true 67 t3) 0,
 i 12 (.build z1 [(0,67,A6)]) 1,
 i 8 (.alloc z1) 0,
 iz (.store 67 t8 B2) 7] false)
 (.seq (.b9 [i 14 (.load true 67 t8) 0,
 i 15 (mv t1) 0,
 i 16 (.build z0 [(0,1,.c (I 5)),(3,1,K0)]) 2,
 i 17 (.call (.f o8) [F6,K6]) 7,
 i 13 (mv H5) 15,
 i 18 (.extract D9 0) 31,
 i 19 (.extract D9 1) 31,
 i 9 (.alloc z0) 0,
 iz (.store 7 t9 N1) 191,
 i 10 (mv N7) 511] false)
 (.seq (.seq (.b9 [i 20 (mv x3) 0,
 i 21 (.bin .neq P0 (.c (I 0))) 1] false)
 (.cond P1
 (.seq (.b9 [i 22 (.build z0 []) 0,
 i 23 (mv x3) 0,
 iz (.store 7 t6 U0) 1,
 i 7 (mv t23) 7] false)
 .ret)
 .skip))
 (.seq (.b9 [i 24 (.load true 67 t8) 0,
 i 25 (.load true 7 t9) 0,
 i 26 (.load true 7 t5) 0,
 i 27 (.call (.f u7) [t24,t25,t26]) 7,
 i 28 (.extract t27 0) 15,
 i 29 (.extract t27 1) 15,
 iz (.store 7 t6 t28) 63,
 i 7 (mv t29) 127] false)
 .ret))))⟩
def Z3:u0:=⟨2,26,[.tmp 4],
 .seq (.b9 [i 4 (.mv (.c (.pv (.bool false)))) 0] false)
 (.seq (.seq (.b9 [i 6 (mv t0) 0,
 i 7 (.n9 t6) 1,
 i 8 (mv t1) 0,
 i 9 (.n9 t8) 4,
 i 10 (.bin .neq t7 t9) 15] false)
 (.cond x3
 (.seq (.b9 [i 4 (.mv (.c (.pv (.bool false)))) 0] false)
 .ret)
 .skip))
 (.seq (.seq (.b9 [i 11 (mv t0) 0,
 i 12 (.n9 A6) 1,
 i 13 (.mv (.c (I 0))) 0] false)
 (.block 0
 (.loop [0,1,12,13]
 (.seq (.b9 [i 14 (.bin .lss D9 B2) 0] false)
 (.seq (.cond F6
 .skip
 (.exit 0))
 (.seq (.block 1
 (.seq (.b9 [i 15 (mv D9) 0,
 i 5 (mv K0) 1] false)
 (.seq (.b9 [i 16 (mv t0) 0,
 i 17 (mv t5) 0,
 i 18 (.m6 7 K6 H5) 3,
 i 19 (.load true 7 N1) 7,
 i 20 (mv t1) 0,
 i 21 (mv t5) 0,
 i 22 (.m6 7 P0 P1) 48,
 i 23 (.load true 7 U0) 112,
 i 24 (.eqs true [0,1,0,2,0,0,0] N7 t23) 255] true)
 (.cond t24
 (.seq (.b9 [i 4 (.mv (.c (.pv (.bool false)))) 0] false)
 .ret)
 .skip))))
 (.b9 [i 25 (.bin .add D9 (.c (I 1))) 0,
 i 13 (mv t25) 1] false)))))))
 (.seq (.b9 [i 4 (.mv (.c (.pv (.bool true)))) 0] false)
 .ret)))⟩
def a7P:u0:=⟨3,23,[.tmp 6],
 .seq (.b9 [i 3 (.box 67 t0) 0,
 i 6 (.mv (.c (.pv (.bool false)))) 0] false)
 (.seq (.b9 [i 10 (.load true 67 t3) 0,
 i 11 (mv t1) 0,
 i 12 (.call (.f p9) [x3,A6]) 3,
 i 9 (mv B2) 7,
 i 13 (.extract t9 0) 15,
 i 14 (.extract t9 1) 15,
 i 7 (.alloc z1) 0,
 iz (.store 67 t7 D9) 95,
 i 8 (mv F6) 255] false)
 (.seq (.b9 [i 15 (mv t8) 0,
 i 16 (.bin .eql K0 (.c (I 0))) 1,
 i 17 (mv K6) 3,
 ig 18 (.b8 t7 0) 17 true 7,
 ig 19 (.load false 1 N1) 17 true 15,
 ig 20 (mv t2) 17 true 7,
 ig 21 (.call (.f G5) [N7,P0]) 17 true 63,
 i 22 (.pick H5 P1 (.c (.pv (.bool false)))) 127,
 i 6 (mv U0) 255] false)
 .ret))⟩
def a2A:u0:=⟨2,8,[.cell 4 true 67],
 .seq (.b9 [i 2 (.box 67 t0) 0,
 i 4 (.alloc z1) 0] false)
 (.seq (.b9 [i 5 (mv t1) 0,
 i 6 (.b8 t2 0) 1,
 iz (.store 1 t6 t5) 3] false)
 (.seq (.b9 [i 7 (.load true 67 t2) 0,
 iz (.store 67 t4 t7) 1] false)
 .ret))⟩
def a4f:u0:=⟨1,6,[.cell 2 true 7],
 .seq (.b9 [i 2 (.alloc z0) 0] false)
 (.seq (.seq (.b9 [i 3 (mv t0) 0] false)
 (.cond t3
 (.seq (.b9 [i 4 (.build z0 [(0,1,.c (I 2)),(2,1,.c (I 1))]) 0,
 iz (.store 7 t2 t4) 1] false)
 .ret)
 .skip))
 (.seq (.b9 [i 5 (.build z0 [(0,1,.c (I 2))]) 0,
 iz (.store 7 t2 t5) 1] false)
 .ret))⟩
def a4e:u0:=⟨3,23,[.tmp 6],
 .seq (.b9 [i 3 (.box 67 t0) 0,
 i 6 (.mv (.c (.pv (.bool false)))) 0] false)
 (.seq (.b9 [i 10 (.load true 67 t3) 0,
 i 11 (mv t1) 0,
 i 12 (.call (.f p9) [x3,A6]) 3,
 i 9 (mv B2) 7,
 i 13 (.extract t9 0) 15,
 i 14 (.extract t9 1) 15,
 i 7 (.alloc z1) 0,
 iz (.store 67 t7 D9) 95,
 i 8 (mv F6) 255] false)
 (.seq (.b9 [i 15 (mv t8) 0,
 i 16 (mv t2) 0,
 i 17 (.bin .eql K0 K6) 3,
 i 18 (mv H5) 7,
 ig 19 (.load true 67 t7) 18 true 15,
 ig 20 (.load true 67 t3) 18 true 15,
 ig 21 (.call (.f x2) [N7,P0]) 18 true 63,
 i 22 (.pick N1 P1 (.c (.pv (.bool false)))) 127,
 i 6 (mv U0) 255] false)
 .ret))⟩
def a9K:u0:=⟨1,5,[.cell 2 true 7],
 .seq (.b9 [i 2 (.alloc z0) 0] false)
 (.seq (.b9 [i 3 (mv t0) 0,
 i 4 (.build z0 [(0,1,.c (I 3)),(2,1,t3)]) 1,
 iz (.store 7 t2 t4) 3] false)
 .ret)⟩
def V8:u0:=⟨1,63,[.cell 2 true 67],
 .seq (.b9 [i 1 (.box 3 t0) 0,
 i 2 (.alloc z1) 0] false)
 (.seq (.b9 [i 6 (.load true 3 t1) 0,
 i 7 (.call (.f G4) [t6]) 1,
 i 8 (.build z0 [(0,1,.c (I 9))]) 0,
 i 9 (.build z0 [(0,1,.c (I 9)),(4,1,.c (I 1))]) 0,
 i 10 (.V7 7 2 z0 [(0,t8),(1,t9)]) 12,
 i 11 (.build z1 [(2,1,t7),(1,1,x3),(66,1,.c (I 1))]) 31,
 i 3 (.alloc z1) 0,
 iz (.store 67 t3 A6) 127] false)
 (.seq (.seq (.b9 [i 4 (.mv (.c (I 0))) 0] false)
 (.block 0
 (.loop [1,2,3,4]
 (.seq (.seq (.b9 [i 12 (mv t4) 0,
 i 13 (.b8 t1 1) 0,
 i 14 (.load false 1 D9) 2,
 i 15 (.n9 F6) 6,
 i 16 (.bin .lss B2 K0) 15,
 i 17 (mv K6) 31,
 ig 18 (mv t4) 17 true 63,
 ig 19 (.bin .lss N1 (.c (I 20))) 17 true 127,
 i 20 (.pick H5 N7 (.c (.pv (.bool false)))) 255] false)
 (.cond P0
 .skip
 (.exit 0)))
 (.seq (.block 1
 (.b9 [i 23 (.b8 t3 0) 0,
 i 24 (.load false 1 t23) 1,
 i 25 (.b8 t1 1) 0,
 i 26 (.load false 1 t25) 4,
 i 27 (mv t4) 0,
 i 28 (.m6 5 t26 t27) 28,
 i 29 (.load true 5 t28) 60,
 i 30 (.b8 t3 2) 0,
 i 31 (.load false 1 t30) 128,
 i 32 (.call (.f n5) [t29,t31]) 508,
 i 33 (.V7 7 1 z0 [(0,t32)]) 1020,
 i 34 (.append 7 64 t24 t33) 2047,
 i 35 (.b8 t3 0) 4095,
 iz (.store 1 t35 t34) 8191] true))
 (.b9 [i 21 (mv t4) 0,
 i 22 (.bin .add P1 (.c (I 1))) 1,
 i 4 (mv U0) 3] false))))))
 (.seq (.seq (.b9 [i 5 (.mv (.c (I 0))) 0] false)
 (.block 2
 (.loop [1,2,3,5]
 (.seq (.seq (.b9 [i 36 (mv t5) 0,
 i 37 (.b8 t1 2) 0,
 i 38 (.load false 1 t37) 2,
 i 39 (.n9 t38) 6,
 i 40 (.bin .lss t36 t39) 15,
 i 41 (mv t40) 31,
 ig 42 (mv t5) 41 true 63,
 ig 43 (.bin .lss t42 (.c (I 4))) 41 true 127,
 i 44 (.pick t41 t43 (.c (.pv (.bool false)))) 255] false)
 (.cond t44
 .skip
 (.exit 2)))
 (.seq (.block 3
 (.b9 [i 47 (.b8 t3 1) 0,
 i 48 (.load false 1 t47) 1,
 i 49 (.b8 t3 2) 0,
 i 50 (.load false 1 t49) 4,
 i 51 (.b8 t1 2) 0,
 i 52 (.load false 1 t51) 16,
 i 53 (mv t5) 0,
 i 54 (.m6 1 t52 t53) 112,
 i 55 (.load false 1 t54) 240,
 i 56 (.conv .i64 t55) 496,
 i 57 (.call (.f J8) [t50,.c (I 3),t56]) 1020,
 i 58 (.build z0 [(0,1,.c (I 9)),(4,1,t57)]) 2044,
 i 59 (.V7 7 1 z0 [(0,t58)]) 4092,
 i 60 (.append 7 64 t48 t59) 8191,
 i 61 (.b8 t3 1) 16383,
 iz (.store 1 t61 t60) 32767] true))
 (.b9 [i 45 (mv t5) 0,
 i 46 (.bin .add t45 (.c (I 1))) 1,
 i 5 (mv t46) 3] false))))))
 (.seq (.b9 [i 62 (.load true 67 t3) 0,
 iz (.store 67 t2 t62) 1] false)
 .ret))))⟩
def N9:u0:=⟨0,2,[.tmp 0],
 .seq (.b9 [i 0 (.mv (.c (.emp 1))) 0] false)
 (.seq (.b9 [i 1 (.V7 1 5 [.pv (.str [])] [(0,.c (.pv (.str [70,111,110,116]))),(1,.c (.pv (.str [80,97,116,116,101,114,110]))),(2,.c (.pv (.str [69,110,99,111,100,105,110,103]))),(3,.c (.pv (.str [70,111,114,109]))),(4,.c (.pv (.str [71,101,110,101,114,105,99])))]) 0,
 i 0 (mv t1) 1] false)
 .ret)⟩
def K2:u0:=⟨2,88,[.cell 4 true 29,.tmp 5],
 .seq (.b9 [i 2 (.box 67 t0) 0,
 i 4 (.alloc z5) 0,
 i 5 (.mv (.c (I 0))) 0] false)
 (.seq (.b9 [i 11 (.b8 t2 0) 0,
 i 12 (.load true 67 A6) 1,
 i 13 (mv t1) 0,
 i 14 (.call (.f a0j) [B2,D9]) 7,
 i 10 (mv F6) 15,
 i 15 (.extract x3 0) 31,
 i 16 (.extract x3 1) 31,
 i 6 (mv K0) 63,
 i 7 (mv K6) 255] false)
 (.seq (.seq (.b9 [i 17 (mv t7) 0,
 i 18 (.bin .neq H5 (.c (I 0))) 1] false)
 (.cond N1
 (.seq (.b9 [i 19 (.build z5 []) 0,
 i 20 (mv t7) 0,
 iz (.store 29 t4 N7) 1,
 i 5 (mv P0) 7] false)
 .ret)
 .skip))
 (.seq (.b9 [i 21 (mv t6) 0,
 i 22 (mv t1) 0,
 i 23 (.bin .sub U0 (.c (I 1))) 2,
 i 24 (.m6 7 P1 t23) 7,
 i 25 (.load true 7 t24) 15,
 i 8 (.alloc z0) 0,
 iz (.store 7 t8 t25) 63] false)
 (.seq (.seq (.b9 [i 26 (mv t6) 0,
 i 27 (.m6 7 t26 (.c (I 0))) 1,
 i 28 (.b8 t27 0) 3,
 i 29 (.load false 1 t28) 7,
 i 30 (.bin .eql t29 (.c (I 0))) 15,
 i 31 (mv t30) 31,
 ig 32 (.b8 t8 0) 31 false 63,
 ig 33 (.load false 1 t32) 31 false 127,
 ig 34 (.bin .neq t33 (.c (I 5))) 31 false 255,
 ig 35 (mv t34) 31 false 511,
 ig 36 (.b8 t8 0) 35 true 1023,
 ig 37 (.load false 1 t36) 35 true 2047,
 ig 38 (.bin .neq t37 (.c (I 6))) 35 true 4095,
 ig 39 (.pick t35 t38 (.c (.pv (.bool false)))) 31 false 8191,
 i 40 (.pick t31 (.c (.pv (.bool true))) t39) 16383] false)
 (.cond t40
 (.seq (.b9 [i 41 (.build z5 []) 0,
 iz (.store 29 t4 t41) 1,
 i 5 (.mv (.c (I 22))) 3] false)
 .ret)
 .skip))
 (.seq (.b9 [i 42 (mv t6) 0,
 i 43 (.m6 7 t42 (.c (I 1))) 1,
 i 44 (.load true 7 t43) 3,
 i 45 (mv t1) 0,
 i 46 (.build z5 [(7,7,t44),(28,1,t45)]) 15,
 i 9 (.alloc z5) 0,
 iz (.store 29 t9 t46) 63] false)
 (.seq (.seq (.b9 [i 48 (.b8 t2 0) 0,
 i 49 (.b8 t48 2) 1,
 i 50 (.load false 1 t49) 3,
 i 51 (mv t6) 0,
 i 52 (.m6 7 t51 (.c (I 0))) 8,
 i 53 (.load true 7 t52) 24,
 i 54 (.call (.f S7) [t50,t53]) 63,
 i 47 (mv t54) 127,
 i 55 (.extract t47 0) 255,
 i 56 (.extract t47 1) 255,
 i 57 (.b8 t9 0) 511,
 iz (.store 7 t57 t55) 1535,
 i 7 (mv t56) 4095] true)
 (.seq (.b9 [i 58 (mv t7) 0,
 i 59 (.bin .neq t58 (.c (I 0))) 1] false)
 (.cond t59
 (.seq (.b9 [i 60 (.build z5 []) 0,
 i 61 (mv t7) 0,
 iz (.store 29 t4 t60) 1,
 i 5 (mv t61) 7] false)
 .ret)
 .skip)))
 (.seq (.seq (.b9 [i 63 (.b8 t2 0) 0,
 i 64 (.b8 t63 2) 1,
 i 65 (.load false 1 t64) 3,
 i 66 (.load true 7 t8) 0,
 i 67 (.call (.f S7) [t65,t66]) 15,
 i 62 (mv t67) 31,
 i 68 (.extract t62 0) 63,
 i 69 (.extract t62 1) 63,
 i 70 (.b8 t9 14) 127,
 iz (.store 7 t70 t68) 383,
 i 7 (mv t69) 1023] false)
 (.seq (.b9 [i 71 (mv t7) 0,
 i 72 (.bin .neq t71 (.c (I 0))) 1] false)
 (.cond t72
 (.seq (.b9 [i 73 (.build z5 []) 0,
 i 74 (mv t7) 0,
 iz (.store 29 t4 t73) 1,
 i 5 (mv t74) 7] false)
 .ret)
 .skip)))
 (.seq (.seq (.b9 [i 76 (.load true 67 t2) 0,
 i 77 (.b8 t9 14) 0,
 i 78 (.load true 7 t77) 2,
 i 79 (.call (.f o8) [t76,t78]) 7,
 i 75 (mv t79) 15,
 i 80 (.extract t75 0) 31,
 i 81 (.extract t75 1) 31,
 i 82 (.b8 t9 21) 63,
 iz (.store 7 t82 t80) 191,
 i 7 (mv t81) 511] false)
 (.seq (.b9 [i 83 (mv t7) 0,
 i 84 (.bin .neq t83 (.c (I 0))) 1] false)
 (.cond t84
 (.seq (.b9 [i 85 (.build z5 []) 0,
 i 86 (mv t7) 0,
 iz (.store 29 t4 t85) 1,
 i 5 (mv t86) 7] false)
 .ret)
 .skip)))
 (.seq (.b9 [i 87 (.load true 29 t9) 0,
 iz (.store 29 t4 t87) 1,
 i 5 (.mv (.c (I 0))) 3] false)
 .ret)))))))))⟩
def Y1:u0:=⟨4,8,[.tmp 6],
 .seq (.b9 [i 4 (.box 1 t0) 0,
 i 5 (.box 1 t1) 0,
 i 6 (.mv (.c (.pv .nilFunc))) 0] false)
 (.seq (.b9 [i 7 (.mkf (.func m9) [] [t2,t4,t3,t5]) 0,
 i 6 (mv t7) 1] false)
 .ret)⟩
def R2:u0:=⟨4,23,[.cell 4 true 67,.tmp 5],
 .seq (.b9 [i 4 (.alloc z1) 0,
 i 5 (.mv (.c (I 0))) 0] false)
 (.seq (.b9 [i 9 (.load false 1 t0) 0,
 i 10 (.load false 1 t1) 0,
 i 11 (.call t9 [x3]) 3,
 i 8 (mv A6) 7,
 i 12 (.extract t8 0) 15,
 i 13 (.extract t8 1) 15,
 i 6 (.alloc z5) 0,
 iz (.store 29 t6 B2) 95,
 i 7 (mv D9) 255] false)
 (.seq (.seq (.b9 [i 14 (mv t7) 0,
 i 15 (.bin .neq F6 (.c (I 0))) 1] false)
 (.cond K0
 (.seq (.b9 [i 16 (.load true 67 t2) 0,
 i 17 (mv t7) 0,
 iz (.store 67 t4 K6) 1,
 i 5 (mv H5) 7] false)
 .ret)
 .skip))
 (.seq (.b9 [i 18 (.load false 1 t3) 0,
 i 19 (.load true 29 t6) 0,
 i 20 (.call N1 [N7]) 3,
 i 21 (.extract P0 0) 7,
 i 22 (.extract P0 1) 7,
 iz (.store 67 t4 P1) 31,
 i 5 (mv U0) 63] false)
 .ret)))⟩
def H8:u0:=⟨2,44,[.cell 4 true 67,.tmp 5],
 .seq (.b9 [i 2 (.box 67 t0) 0,
 i 3 (.box 29 t1) 0,
 i 4 (.alloc z1) 0,
 i 5 (.mv (.c (I 0))) 0] false)
 (.seq (.seq (.b9 [i 8 (.b8 t3 14) 0,
 i 9 (.b8 t8 3) 1,
 i 10 (.load false 1 t9) 3,
 i 11 (.b8 t3 7) 0,
 i 12 (.load true 7 A6) 8,
 i 13 (.call (.f M6) [x3,B2]) 31,
 i 14 (.not D9) 63] false)
 (.cond F6
 (.seq (.b9 [i 15 (.b8 t2 0) 0,
 i 16 (.load true 67 K0) 1,
 iz (.store 67 t4 K6) 3,
 i 5 (.mv (.c (I 22))) 7] false)
 .ret)
 .skip))
 (.seq (.b9 [i 18 (.b8 t2 0) 0,
 i 19 (.b8 N1 2) 1,
 i 20 (.load false 1 N7) 3,
 i 21 (.b8 t3 21) 0,
 i 22 (.load true 7 P1) 8,
 i 23 (.b8 t3 0) 0,
 i 24 (.load true 7 t23) 32,
 i 25 (.b8 t3 7) 0,
 i 26 (.load true 7 t25) 128,
 i 27 (.call (.f D4) [P0,U0,t24,t26]) 511,
 i 17 (mv t27) 1023,
 i 28 (.extract H5 0) 2047,
 i 29 (.extract H5 1) 2047,
 i 6 (mv t28) 4095,
 i 7 (mv t29) 16383] false)
 (.seq (.seq (.b9 [i 30 (mv t7) 0,
 i 31 (.bin .neq t30 (.c (I 0))) 1] false)
 (.cond t31
 (.seq (.b9 [i 32 (.b8 t2 0) 0,
 i 33 (.load true 67 t32) 1,
 i 34 (mv t7) 0,
 iz (.store 67 t4 t33) 3,
 i 5 (mv t34) 15] false)
 .ret)
 .skip))
 (.seq (.b9 [i 35 (.load true 67 t2) 0,
 i 36 (.load true 29 t3) 0,
 i 37 (mv t6) 0,
 i 38 (.b8 t3 7) 0,
 i 39 (.load true 7 t38) 8,
 i 40 (.V7 7 1 z0 [(0,t39)]) 24,
 i 41 (.call (.f o9) [t35,t36,t37,t40]) 63,
 i 42 (.extract t41 0) 127,
 i 43 (.extract t41 1) 127,
 iz (.store 67 t4 t42) 511,
 i 5 (mv t43) 1023] false)
 .ret))))⟩
def H9:u0:=⟨2,32,[.cell 4 true 67,.tmp 5],
 .seq (.b9 [i 2 (.box 67 t0) 0,
 i 3 (.box 29 t1) 0,
 i 4 (.alloc z1) 0,
 i 5 (.mv (.c (I 0))) 0] false)
 (.seq (.b9 [i 9 (.load true 67 t2) 0,
 i 10 (.b8 t3 21) 0,
 i 11 (.load true 7 x3) 2,
 i 12 (.b8 t3 0) 0,
 i 13 (.load true 7 B2) 8,
 i 14 (.call (.f u7) [t9,A6,D9]) 31,
 i 8 (mv F6) 63,
 i 15 (.extract t8 0) 127,
 i 16 (.extract t8 1) 127,
 i 6 (.alloc z0) 0,
 iz (.store 7 t6 K0) 767,
 i 7 (mv K6) 2047] false)
 (.seq (.seq (.b9 [i 17 (mv t7) 0,
 i 18 (.bin .neq H5 (.c (I 0))) 1] false)
 (.cond N1
 (.seq (.b9 [i 19 (.b8 t2 0) 0,
 i 20 (.load true 67 N7) 1,
 i 21 (mv t7) 0,
 iz (.store 67 t4 P0) 3,
 i 5 (mv P1) 15] false)
 .ret)
 .skip))
 (.seq (.b9 [i 22 (.load true 67 t2) 0,
 i 23 (.load true 29 t3) 0,
 i 24 (.b8 t2 0) 0,
 i 25 (.b8 t24 2) 4,
 i 26 (.load false 1 t25) 12,
 i 27 (.load true 7 t6) 0,
 i 28 (.V7 7 1 z0 [(0,t27)]) 32,
 i 29 (.call (.f o9) [U0,t23,t26,t28]) 127,
 i 30 (.extract t29 0) 255,
 i 31 (.extract t29 1) 255,
 iz (.store 67 t4 t30) 1023,
 i 5 (mv t31) 2047] false)
 .ret)))⟩
def I1:u0:=⟨2,30,[.cell 4 true 67,.tmp 5],
 .seq (.b9 [i 2 (.box 67 t0) 0,
 i 3 (.box 29 t1) 0,
 i 4 (.alloc z1) 0,
 i 5 (.mv (.c (I 0))) 0] false)
 (.seq (.b9 [i 9 (.b8 t2 0) 0,
 i 10 (.b8 t9 2) 1,
 i 11 (.load false 1 x3) 3,
 i 12 (.b8 t3 21) 0,
 i 13 (.load true 7 B2) 8,
 i 14 (.b8 t3 0) 0,
 i 15 (.load true 7 F6) 32,
 i 16 (.call (.f P6) [A6,D9,K0]) 127,
 i 8 (mv K6) 255,
 i 17 (.extract t8 0) 511,
 i 18 (.extract t8 1) 511,
 i 6 (mv H5) 1023,
 i 7 (mv N1) 4095] false)
 (.seq (.seq (.b9 [i 19 (mv t7) 0,
 i 20 (.bin .neq N7 (.c (I 0))) 1] false)
 (.cond P0
 (.seq (.b9 [i 21 (.b8 t2 0) 0,
 i 22 (.load true 67 P1) 1,
 i 23 (mv t7) 0,
 iz (.store 67 t4 U0) 3,
 i 5 (mv t23) 15] false)
 .ret)
 .skip))
 (.seq (.b9 [i 24 (.load true 67 t2) 0,
 i 25 (.load true 29 t3) 0,
 i 26 (mv t6) 0,
 i 27 (.call (.f o9) [t24,t25,t26,.c (.emp 7)]) 7,
 i 28 (.extract t27 0) 15,
 i 29 (.extract t27 1) 15,
 iz (.store 67 t4 t28) 63,
 i 5 (mv t29) 127] false)
 .ret)))⟩
def I2:u0:=⟨2,32,[.cell 4 true 67,.tmp 5],
 .seq (.b9 [i 2 (.box 67 t0) 0,
 i 3 (.box 29 t1) 0,
 i 4 (.alloc z1) 0,
 i 5 (.mv (.c (I 0))) 0] false)
 (.seq (.b9 [i 9 (.build z0 [(0,1,.c (I 2))]) 0,
 i 6 (.alloc z0) 0,
 iz (.store 7 t6 t9) 3] false)
 (.seq (.seq (.b9 [i 11 (.load true 67 t2) 0,
 i 12 (.b8 t3 21) 0,
 i 13 (.load true 7 B2) 2,
 i 14 (.b8 t3 0) 0,
 i 15 (.load true 7 F6) 8,
 i 16 (.call (.f u7) [A6,D9,K0]) 31,
 i 10 (mv K6) 63,
 i 17 (.extract x3 0) 127,
 i 18 (.extract x3 1) 127,
 i 7 (.alloc z0) 0,
 iz (.store 7 t7 H5) 767,
 i 8 (mv N1) 2047] false)
 (.seq (.b9 [i 19 (mv t8) 0,
 i 20 (.bin .eql N7 (.c (I 0))) 1] false)
 (.cond P0
 (.b9 [i 21 (.b8 t6 2) 0,
 iz (.store 1 P1 (.c (I 1))) 1] false)
 .skip)))
 (.seq (.b9 [i 22 (.load true 67 t2) 0,
 i 23 (.load true 29 t3) 0,
 i 24 (.b8 t2 0) 0,
 i 25 (.b8 t24 2) 4,
 i 26 (.load false 1 t25) 12,
 i 27 (.load true 7 t6) 0,
 i 28 (.V7 7 1 z0 [(0,t27)]) 32,
 i 29 (.call (.f o9) [U0,t23,t26,t28]) 127,
 i 30 (.extract t29 0) 255,
 i 31 (.extract t29 1) 255,
 iz (.store 67 t4 t30) 1023,
 i 5 (mv t31) 2047] false)
 .ret)))⟩
def a1o:u0:=⟨2,26,[.tmp 4],
 .seq (.b9 [i 4 (.mv (.c (.pv (.bool false)))) 0] false)
 (.seq (.seq (.b9 [i 6 (mv t0) 0,
 i 7 (.n9 t6) 1,
 i 8 (mv t1) 0,
 i 9 (.n9 t8) 4,
 i 10 (.bin .neq t7 t9) 15] false)
 (.cond x3
 (.seq (.b9 [i 4 (.mv (.c (.pv (.bool false)))) 0] false)
 .ret)
 .skip))
 (.seq (.seq (.b9 [i 5 (.mv (.c (I 0))) 0] false)
 (.block 0
 (.loop [0,1,5]
 (.seq (.seq (.b9 [i 11 (mv t5) 0,
 i 12 (mv t0) 0,
 i 13 (.n9 B2) 2,
 i 14 (.bin .lss A6 D9) 7] false)
 (.cond F6
 .skip
 (.exit 0)))
 (.seq (.block 1
 (.seq (.b9 [i 17 (mv t0) 0,
 i 18 (mv t5) 0,
 i 19 (.m6 7 H5 N1) 3,
 i 20 (.load true 7 N7) 7,
 i 21 (mv t1) 0,
 i 22 (mv t5) 0,
 i 23 (.m6 7 P1 U0) 48,
 i 24 (.load true 7 t23) 112,
 i 25 (.eqs true [0,1,0,2,0,0,0] P0 t24) 255] true)
 (.cond t25
 (.seq (.b9 [i 4 (.mv (.c (.pv (.bool false)))) 0] false)
 .ret)
 .skip)))
 (.b9 [i 15 (mv t5) 0,
 i 16 (.bin .add K0 (.c (I 1))) 1,
 i 5 (mv K6) 3] false))))))
 (.seq (.b9 [i 4 (.mv (.c (.pv (.bool true)))) 0] false)
 .ret)))⟩
def a5h:u0:=⟨2,27,[.tmp 4],
 .seq (.b9 [i 4 (.mv (.c (.pv (.bool false)))) 0] false)
 (.seq (.seq (.b9 [i 6 (mv t0) 0,
 i 7 (.n9 t6) 1,
 i 8 (mv t1) 0,
 i 9 (.n9 t8) 4,
 i 10 (.bin .neq t7 t9) 15] false)
 (.cond x3
 (.seq (.b9 [i 4 (.mv (.c (.pv (.bool false)))) 0] false)
 .ret)
 .skip))
 (.seq (.seq (.b9 [i 5 (.mv (.c (I 0))) 0] false)
 (.block 0
 (.loop [0,1,5]
 (.seq (.seq (.b9 [i 11 (mv t5) 0,
 i 12 (mv t0) 0,
 i 13 (.n9 B2) 2,
 i 14 (.bin .lss A6 D9) 7] false)
 (.cond F6
 .skip
 (.exit 0)))
 (.seq (.block 1
 (.seq (.b9 [i 17 (mv t0) 0,
 i 18 (mv t5) 0,
 i 19 (.m6 7 H5 N1) 3,
 i 20 (.load true 7 N7) 7,
 i 21 (mv t1) 0,
 i 22 (mv t5) 0,
 i 23 (.m6 7 P1 U0) 48,
 i 24 (.load true 7 t23) 112,
 i 25 (.call (.f M5) [P0,t24]) 255,
 i 26 (.not t25) 511] true)
 (.cond t26
 (.seq (.b9 [i 4 (.mv (.c (.pv (.bool false)))) 0] false)
 .ret)
 .skip)))
 (.b9 [i 15 (mv t5) 0,
 i 16 (.bin .add K0 (.c (I 1))) 1,
 i 5 (mv K6) 3] false))))))
 (.seq (.b9 [i 4 (.mv (.c (.pv (.bool true)))) 0] false)
 .ret)))⟩
def a4h:u0:=⟨2,90,[.tmp 4],
 .seq (.b9 [i 2 (.box 57 t0) 0,
 i 3 (.box 57 t1) 0,
 i 4 (.mv (.c (.pv (.bool false)))) 0] false)
 (.seq (.b9 [i 5 (.b8 t2 0) 0,
 i 6 (.load true 6 t5) 1,
 i 7 (.b8 t3 0) 0,
 i 8 (.load true 6 t7) 4,
 i 9 (.eqs false [0,0,0,0,0,0] t6 t8) 15,
 i 10 (mv t9) 31,
 ig 11 (.b8 t2 6) 10 true 63,
 ig 12 (.load false 1 A6) 10 true 127,
 ig 13 (.n9 B2) 10 true 255,
 ig 14 (.b8 t3 6) 10 true 63,
 ig 15 (.load false 1 F6) 10 true 575,
 ig 16 (.n9 K0) 10 true 1599,
 ig 17 (.bin .eql D9 K6) 10 true 4095,
 i 18 (.pick x3 H5 (.c (.pv (.bool false)))) 8191,
 i 19 (mv N1) 16383,
 ig 20 (.b8 t2 7) 19 true 32767,
 ig 21 (.b8 P0 0) 19 true 65535,
 ig 22 (.load false 1 P1) 19 true 131071,
 ig 23 (.b8 t3 7) 19 true 32767,
 ig 24 (.b8 t23 0) 19 true 294911,
 ig 25 (.load false 1 t24) 19 true 819199,
 ig 26 (.bin .eql U0 t25) 19 true 2097151,
 i 27 (.pick N7 t26 (.c (.pv (.bool false)))) 4194303,
 i 28 (mv t27) 8388607,
 ig 29 (.b8 t2 7) 28 true 16777215,
 ig 30 (.b8 t29 1) 28 true 33554431,
 ig 31 (.load true 4 t30) 28 true 67108863,
 ig 32 (.b8 t3 7) 28 true 16777215,
 ig 33 (.b8 t32 1) 28 true 150994943,
 ig 34 (.load true 4 t33) 28 true 419430399,
 ig 35 (.eqs false [0,0,0,0] t31 t34) 28 true 1073741823,
 i 36 (.pick t28 t35 (.c (.pv (.bool false)))) 2147483647,
 i 37 (mv t36) 4294967295,
 ig 38 (.b8 t2 34) 37 true 8589934591,
 ig 39 (.b8 t38 0) 37 true 17179869183,
 ig 40 (.load false 1 t39) 37 true 34359738367,
 ig 41 (.b8 t3 34) 37 true 8589934591,
 ig 42 (.b8 t41 0) 37 true 77309411327,
 ig 43 (.load false 1 t42) 37 true 214748364799,
 ig 44 (.bin .eql t40 t43) 37 true 549755813887,
 i 45 (.pick t37 t44 (.c (.pv (.bool false)))) 1099511627775,
 i 46 (mv t45) 2199023255551,
 ig 47 (.b8 t2 40) 46 true 4398046511103,
 ig 48 (.load false 1 t47) 46 true 8796093022207,
 ig 49 (.b8 t3 40) 46 true 4398046511103,
 ig 50 (.load false 1 t49) 46 true 21990232555519,
 ig 51 (.bin .eql t48 t50) 46 true 70368744177663,
 i 52 (.pick t46 t51 (.c (.pv (.bool false)))) 140737488355327,
 i 53 (mv t52) 281474976710655,
 ig 54 (.b8 t2 41) 53 true 562949953421311,
 ig 55 (.load false 1 t54) 53 true 1125899906842623,
 ig 56 (.n9 t55) 53 true 2251799813685247,
 ig 57 (.b8 t3 41) 53 true 562949953421311,
 ig 58 (.load false 1 t57) 53 true 5066549580791807,
 ig 59 (.n9 t58) 53 true 14073748835532799,
 ig 60 (.bin .eql t56 t59) 53 true 36028797018963967,
 i 61 (.pick t53 t60 (.c (.pv (.bool false)))) 72057594037927935,
 i 62 (mv t61) 144115188075855871,
 ig 63 (.b8 t2 42) 62 true 288230376151711743,
 ig 64 (.load true 7 t63) 62 true 576460752303423487,
 ig 65 (.b8 t3 42) 62 true 288230376151711743,
 ig 66 (.load true 7 t65) 62 true 1441151880758558719,
 ig 67 (.eqs false [0,1,0,2,0,0,0] t64 t66) 62 true 4611686018427387903,
 i 68 (.pick t62 t67 (.c (.pv (.bool false)))) 9223372036854775807,
 i 69 (mv t68) 18446744073709551615,
 ig 70 (.b8 t2 49) 69 true 36893488147419103231,
 ig 71 (.load true 6 t70) 69 true 73786976294838206463,
 ig 72 (.b8 t3 49) 69 true 36893488147419103231,
 ig 73 (.load true 6 t72) 69 true 184467440737095516159,
 ig 74 (.eqs false [0,0,0,0,0,0] t71 t73) 69 true 590295810358705651711,
 i 75 (.pick t69 t74 (.c (.pv (.bool false)))) 1180591620717411303423,
 i 76 (mv t75) 2361183241434822606847,
 ig 77 (.b8 t2 55) 76 true 4722366482869645213695,
 ig 78 (.load false 1 t77) 76 true 9444732965739290427391,
 ig 79 (.b8 t3 55) 76 true 4722366482869645213695,
 ig 80 (.load false 1 t79) 76 true 23611832414348226068479,
 ig 81 (.bin .eql t78 t80) 76 true 75557863725914323419135,
 i 82 (.pick t76 t81 (.c (.pv (.bool false)))) 151115727451828646838271,
 i 83 (mv t82) 302231454903657293676543,
 ig 84 (.b8 t2 56) 83 true 604462909807314587353087,
 ig 85 (.load false 1 t84) 83 true 1208925819614629174706175,
 ig 86 (.b8 t3 56) 83 true 604462909807314587353087,
 ig 87 (.load false 1 t86) 83 true 3022314549036572936765439,
 ig 88 (.bin .eql t85 t87) 83 true 9671406556917033397649407,
 i 89 (.pick t83 t88 (.c (.pv (.bool false)))) 19342813113834066795298815,
 i 4 (mv t89) 38685626227668133590597631] false)
 .ret)⟩
def b1M:u0:=⟨2,18,[.tmp 4],
 .seq (.b9 [i 4 (.mv (.c (.pv (.bool false)))) 0] false)
 (.seq (.seq (.b9 [i 5 (.mv (.c (I 0))) 0] false)
 (.block 0
 (.loop [0,1,5]
 (.seq (.seq (.b9 [i 6 (mv t5) 0,
 i 7 (mv t0) 0,
 i 8 (.n9 t7) 2,
 i 9 (.bin .lss t6 t8) 7] false)
 (.cond t9
 .skip
 (.exit 0)))
 (.seq (.block 1
 (.seq (.b9 [i 12 (mv t0) 0,
 i 13 (mv t5) 0,
 i 14 (.m6 1 B2 D9) 3,
 i 15 (.load false 1 F6) 7,
 i 16 (mv t1) 0,
 i 17 (.bin .eql K0 K6) 31] false)
 (.cond H5
 (.seq (.b9 [i 4 (.mv (.c (.pv (.bool true)))) 0] false)
 .ret)
 .skip)))
 (.b9 [i 10 (mv t5) 0,
 i 11 (.bin .add x3 (.c (I 1))) 1,
 i 5 (mv A6) 3] false))))))
 (.seq (.b9 [i 4 (.mv (.c (.pv (.bool false)))) 0] false)
 .ret))⟩
def b0y:u0:=⟨2,25,[.cell 4 true 7,.tmp 5],
 .seq (.b9 [i 3 (.box 7 t1) 0,
 i 4 (.alloc z0) 0,
 i 5 (.mv (.c (I 0))) 0] false)
 (.seq (.seq (.b9 [i 7 (.b8 t3 0) 0,
 i 8 (.load false 1 t7) 1,
 i 9 (.bin .eql t8 (.c (I 0))) 3] false)
 (.cond t9
 (.seq (.b9 [i 10 (.build z0 []) 0,
 iz (.store 7 t4 x3) 1,
 i 5 (.mv (.c (I 22))) 3] false)
 .ret)
 .skip))
 (.seq (.seq (.b9 [i 11 (.b8 t3 0) 0,
 i 12 (.load false 1 A6) 1,
 i 13 (.bin .neq B2 (.c (I 6))) 3] false)
 (.cond D9
 (.seq (.b9 [i 14 (.load true 7 t3) 0,
 i 15 (.call (.f a3P) [F6]) 1,
 iz (.store 7 t4 K0) 3,
 i 5 (.mv (.c (I 0))) 7] false)
 .ret)
 .skip))
 (.seq (.b9 [i 16 (mv t0) 0,
 i 17 (.load true 7 t3) 0,
 i 18 (.call (.f a1L) [K6,H5]) 3,
 i 6 (mv N1) 7] false)
 (.seq (.seq (.b9 [i 19 (mv t6) 0,
 i 20 (.N0 N7) 1,
 i 21 (.bin .gtr P0 (.c (I 100))) 3] false)
 (.cond P1
 (.seq (.b9 [i 22 (.build z0 []) 0,
 iz (.store 7 t4 U0) 1,
 i 5 (.mv (.c (I 23))) 3] false)
 .ret)
 .skip))
 (.seq (.b9 [i 23 (mv t6) 0,
 i 24 (.build z0 [(0,1,.c (I 5)),(3,1,t23)]) 1,
 iz (.store 7 t4 t24) 3,
 i 5 (.mv (.c (I 0))) 7] false)
 .ret)))))⟩
def a8D:u0:=⟨2,23,[.cell 4 true 7,.tmp 5],
 .seq (.b9 [i 2 (.box 67 t0) 0,
 i 3 (.box 7 t1) 0,
 i 4 (.alloc z0) 0,
 i 5 (.mv (.c (.pv (.bool false)))) 0] false)
 (.seq (.b9 [i 9 (.b8 t2 2) 0,
 i 10 (.load false 1 t9) 1,
 i 11 (.build z0 [(0,1,.c (I 9)),(4,1,.c (I 4))]) 0,
 i 12 (.load true 7 t3) 0,
 i 13 (.call (.f a0P) [x3,A6,B2]) 15,
 i 8 (mv D9) 31,
 i 14 (.extract t8 0) 63,
 i 15 (.extract t8 1) 63,
 i 6 (.alloc z0) 0,
 iz (.store 7 t6 F6) 383,
 i 7 (mv K0) 1023] false)
 (.seq (.b9 [i 16 (.load true 7 t6) 0,
 i 17 (mv t7) 0,
 i 18 (mv H5) 2,
 ig 19 (.b8 t6 0) 18 true 6,
 ig 20 (.load false 1 N7) 18 true 14,
 ig 21 (.bin .eql P0 (.c (I 9))) 18 true 30,
 i 22 (.pick N1 P1 (.c (.pv (.bool false)))) 62,
 iz (.store 7 t4 K6) 7,
 i 5 (mv U0) 255] true)
 .ret))⟩
def a8A:u0:=⟨3,34,[.cell 6 true 7,.tmp 7],
 .seq (.b9 [i 4 (.box 7 t1) 0,
 i 5 (.box 7 t2) 0,
 i 6 (.alloc z0) 0,
 i 7 (.mv (.c (.pv (.bool false)))) 0] false)
 (.seq (.b9 [i 10 (mv t0) 0,
 i 11 (.b8 t4 4) 0,
 i 12 (.load false 1 A6) 2,
 i 13 (.m6 7 x3 B2) 7,
 i 14 (.load true 7 D9) 15,
 i 8 (.alloc z2) 0,
 iz (.store 7 t8 F6) 63] false)
 (.seq (.b9 [i 15 (.b8 t8 3) 0,
 i 16 (.load false 1 K0) 1,
 i 17 (.load true 7 t5) 0,
 i 18 (.call (.f Q0) [K6,H5]) 7,
 i 9 (mv N1) 15] false)
 (.seq (.seq (.b9 [i 19 (mv t9) 0,
 i 20 (.bin .lss N7 (.c (I 0))) 1,
 i 21 (mv P0) 3,
 ig 22 (mv t9) 21 false 7,
 ig 23 (.b8 t8 4) 21 false 7,
 ig 24 (.load false 1 t23) 21 false 23,
 ig 25 (.n9 t24) 21 false 55,
 ig 26 (.bin .geq U0 t25) 21 false 127,
 i 27 (.pick P1 (.c (.pv (.bool true))) t26) 255] false)
 (.cond t27
 (.seq (.b9 [i 28 (.build z0 []) 0,
 iz (.store 7 t6 t28) 1,
 i 7 (.mv (.c (.pv (.bool false)))) 3] false)
 .ret)
 .skip))
 (.seq (.b9 [i 29 (.b8 t8 4) 0,
 i 30 (.load false 1 t29) 1,
 i 31 (mv t9) 0,
 i 32 (.m6 7 t30 t31) 7,
 i 33 (.load true 7 t32) 15,
 iz (.store 7 t6 t33) 31,
 i 7 (.mv (.c (.pv (.bool true)))) 63] false)
 .ret))))⟩
def a7w:u0:=⟨2,23,[.tmp 4],
 .seq (.b9 [i 3 (.box 7 t1) 0,
 i 4 (.mv (.c (.pv (.bool false)))) 0] false)
 (.seq (.seq (.b9 [i 5 (mv t0) 0] false)
 (.block 0
 (.seq (.seq (.b9 [i 7 (.bin .eql t5 (.c (.pv (.str [70,111,110,116])))) 0,
 i 6 (mv t7) 1] false)
 (.cond t6
 .skip
 (.seq (.b9 [i 8 (.bin .eql t5 (.c (.pv (.str [80,97,116,116,101,114,110])))) 0,
 i 6 (mv t8) 1] false)
 (.cond t6
 .skip
 (.b9 [i 9 (.bin .eql t5 (.c (.pv (.str [70,111,114,109])))) 0,
 i 6 (mv t9) 1] false)))))
 (.cond t6
 (.seq (.b9 [i 10 (.b8 t3 0) 0,
 i 11 (.load false 1 x3) 1,
 i 12 (.bin .eql A6 (.c (I 9))) 3,
 i 4 (mv B2) 7] false)
 .ret)
 (.seq (.b9 [i 14 (.bin .eql t5 (.c (.pv (.str [69,110,99,111,100,105,110,103])))) 0,
 i 13 (mv F6) 1] false)
 (.cond D9
 (.seq (.b9 [i 15 (.b8 t3 0) 0,
 i 16 (.load false 1 K0) 1,
 i 17 (.bin .eql K6 (.c (I 7))) 3,
 i 18 (mv H5) 7,
 ig 19 (.b8 t3 0) 18 false 15,
 ig 20 (.load false 1 N7) 18 false 31,
 ig 21 (.bin .eql P0 (.c (I 8))) 18 false 63,
 i 22 (.pick N1 (.c (.pv (.bool true))) P1) 127,
 i 4 (mv U0) 255] false)
 .ret)
 .skip))))))
 (.seq (.b9 [i 4 (.mv (.c (.pv (.bool true)))) 0] false)
 .ret))⟩
def a7t:u0:=⟨4,75,[.tmp 8,.tmp 9],
 .seq (.b9 [i 5 (.box 7 t1) 0,
 i 6 (.box 7 t2) 0,
 i 7 (.box 7 t3) 0,
 i 8 (.mv (.c (.emp 7))) 0,
 i 9 (.mv (.c (.pv (.bool false)))) 8] false)
 (.seq (.b9 [i 15 (mv t0) 0,
 i 16 (.b8 t5 4) 0,
 i 17 (.load false 1 K6) 2,
 i 18 (.m6 7 K0 H5) 7,
 i 19 (.load true 7 N1) 15,
 i 10 (.alloc z2) 0,
 iz (.store 7 x3 N7) 63] false)
 (.seq (.b9 [i 20 (.b8 x3 3) 0,
 i 21 (.load false 1 P0) 1,
 i 22 (.load true 7 t6) 0,
 i 23 (.call (.f Q0) [P1,U0]) 7,
 i 11 (mv t23) 15] false)
 (.seq (.seq (.b9 [i 24 (mv A6) 0,
 i 25 (.bin .lss t24 (.c (I 0))) 1,
 i 26 (mv t25) 3,
 ig 27 (mv A6) 26 false 7,
 ig 28 (.b8 x3 4) 26 false 7,
 ig 29 (.load false 1 t28) 26 false 23,
 ig 30 (.n9 t29) 26 false 55,
 ig 31 (.bin .geq t27 t30) 26 false 127,
 i 32 (.pick t26 (.c (.pv (.bool true))) t31) 255] false)
 (.cond t32
 (.seq (.seq (.b9 [i 33 (.b8 x3 3) 0,
 i 34 (.load false 1 t33) 1,
 i 35 (.n9 t34) 3,
 i 36 (.b8 x3 5) 0,
 i 37 (.load false 1 t36) 8,
 i 38 (.bin .geq t35 t37) 31] false)
 (.cond t38
 (.seq (.b9 [i 8 (.mv (.c (.emp 7))) 0,
 i 9 (.mv (.c (.pv (.bool false)))) 1] false)
 .ret)
 .skip))
 (.seq (.b9 [i 12 (.mv (.c (.emp 7))) 0,
 i 13 (.mv (.c (.emp 7))) 1] false)
 (.seq (.b9 [i 39 (mv B2) 0,
 i 40 (.b8 x3 3) 0,
 i 41 (.load false 1 t40) 2,
 i 42 (.append 7 64 t39 t41) 7,
 i 43 (.load true 7 t6) 0,
 i 44 (.V7 7 1 z0 [(0,t43)]) 16,
 i 45 (.append 7 64 t42 t44) 63,
 i 46 (.b8 x3 3) 127,
 iz (.store 1 t46 t45) 255] true)
 (.seq (.b9 [i 47 (mv D9) 0,
 i 48 (.b8 x3 4) 0,
 i 49 (.load false 1 t48) 2,
 i 50 (.append 7 64 t47 t49) 7,
 i 51 (.load true 7 t7) 0,
 i 52 (.V7 7 1 z0 [(0,t51)]) 16,
 i 53 (.append 7 64 t50 t52) 63,
 i 54 (.b8 x3 4) 127,
 iz (.store 1 t54 t53) 255] true)
 (.seq (.b9 [i 55 (mv t0) 0,
 i 56 (.b8 t5 4) 0,
 i 57 (.load false 1 t56) 2,
 i 58 (.load true 7 x3) 0,
 i 59 (.call (.f O8) [t55,t57,t58]) 15,
 i 8 (mv t59) 31,
 i 9 (.mv (.c (.pv (.bool true)))) 63] false)
 .ret)))))
 .skip))
 (.seq (.b9 [i 14 (.mv (.c (.emp 7))) 0] false)
 (.seq (.b9 [i 60 (mv F6) 0,
 i 61 (.b8 x3 4) 0,
 i 62 (.load false 1 t61) 2,
 i 63 (.append 7 64 t60 t62) 7,
 i 14 (mv t63) 15] false)
 (.seq (.b9 [i 64 (mv F6) 0,
 i 65 (mv A6) 0,
 i 66 (.load true 7 t7) 0,
 i 67 (.m6 7 t64 t65) 7,
 iz (.store 7 t67 t66) 15] false)
 (.seq (.b9 [i 68 (mv F6) 0,
 i 69 (.b8 x3 4) 1,
 iz (.store 1 t69 t68) 3] false)
 (.seq (.b9 [i 70 (mv t0) 0,
 i 71 (.b8 t5 4) 0,
 i 72 (.load false 1 t71) 2,
 i 73 (.load true 7 x3) 0,
 i 74 (.call (.f O8) [t70,t72,t73]) 15,
 i 8 (mv t74) 31,
 i 9 (.mv (.c (.pv (.bool true)))) 63] false)
 .ret))))))))⟩
def a5L:u0:=⟨3,34,[.cell 6 true 67,.tmp 7],
 .seq (.b9 [i 3 (.box 67 t0) 0,
 i 6 (.alloc z1) 0,
 i 7 (.mv (.c (I 0))) 0] false)
 (.seq (.seq (.b9 [i 9 (.b8 t3 0) 0,
 i 10 (.load false 1 t9) 1,
 i 11 (.n9 x3) 3,
 i 12 (mv t1) 0,
 i 13 (.bin .sub A6 B2) 15,
 i 14 (mv t2) 0,
 i 15 (.n9 F6) 32,
 i 16 (.bin .add D9 K0) 127,
 i 17 (.bin .gtr K6 (.c (I 100))) 255] false)
 (.cond H5
 (.seq (.b9 [i 18 (.load true 67 t3) 0,
 iz (.store 67 t6 N1) 1,
 i 7 (.mv (.c (I 21))) 3] false)
 .ret)
 .skip))
 (.seq (.b9 [i 8 (.mv (.c (.emp 7))) 0] false)
 (.seq (.b9 [i 19 (mv t8) 0,
 i 20 (.b8 t3 0) 0,
 i 21 (.load false 1 P0) 2,
 i 22 (.b8 t3 0) 0,
 i 23 (.load false 1 U0) 8,
 i 24 (.n9 t23) 24,
 i 25 (mv t1) 0,
 i 26 (.bin .sub t24 t25) 120,
 i 27 (.slice 7 P1 none (some t26) none) 254,
 i 28 (.append 7 64 N7 t27) 511,
 i 8 (mv t28) 1023] false)
 (.seq (.b9 [i 29 (mv t8) 0,
 i 30 (mv t2) 0,
 i 31 (.append 7 64 t29 t30) 3,
 i 32 (.b8 t3 0) 7,
 iz (.store 1 t32 t31) 15] false)
 (.seq (.b9 [i 33 (.load true 67 t3) 0,
 iz (.store 67 t6 t33) 1,
 i 7 (.mv (.c (I 0))) 3] false)
 .ret)))))⟩
def a6g:u0:=⟨3,61,[.tmp 6],
 .seq (.b9 [i 4 (.box 7 t1) 0,
 i 5 (.box 7 t2) 0,
 i 6 (.mv (.c (.emp 7))) 0] false)
 (.seq (.b9 [i 11 (mv t0) 0,
 i 12 (.b8 t4 4) 0,
 i 13 (.load false 1 B2) 2,
 i 14 (.m6 7 A6 D9) 7,
 i 15 (.load true 7 F6) 15,
 i 7 (.alloc z2) 0,
 iz (.store 7 t7 K0) 63] false)
 (.seq (.b9 [i 16 (.b8 t7 3) 0,
 i 17 (.load false 1 K6) 1,
 i 18 (.load true 7 t5) 0,
 i 19 (.call (.f Q0) [H5,N1]) 7,
 i 8 (mv N7) 15] false)
 (.seq (.seq (.b9 [i 20 (mv t8) 0,
 i 21 (.bin .lss P0 (.c (I 0))) 1,
 i 22 (mv P1) 3,
 ig 23 (mv t8) 22 false 7,
 ig 24 (.b8 t7 4) 22 false 7,
 ig 25 (.load false 1 t24) 22 false 23,
 ig 26 (.n9 t25) 22 false 55,
 ig 27 (.bin .geq t23 t26) 22 false 127,
 i 28 (.pick U0 (.c (.pv (.bool true))) t27) 255] false)
 (.cond t28
 (.seq (.b9 [i 29 (mv t0) 0,
 i 6 (mv t29) 1] false)
 .ret)
 .skip))
 (.seq (.b9 [i 9 (.mv (.c (.emp 7))) 0,
 i 10 (.mv (.c (.emp 7))) 1] false)
 (.seq (.b9 [i 30 (mv t9) 0,
 i 31 (.b8 t7 3) 0,
 i 32 (.load false 1 t31) 2,
 i 33 (mv t8) 0,
 i 34 (.slice 7 t32 none (some t33) none) 14,
 i 35 (.append 7 64 t30 t34) 31,
 i 36 (.b8 t7 3) 0,
 i 37 (.load false 1 t36) 64,
 i 38 (mv t8) 0,
 i 39 (.bin .add t38 (.c (I 1))) 256,
 i 40 (.slice 7 t37 (some t39) none none) 960,
 i 41 (.append 7 64 t35 t40) 2047,
 i 42 (.b8 t7 3) 4095,
 iz (.store 1 t42 t41) 8191] true)
 (.seq (.b9 [i 43 (mv x3) 0,
 i 44 (.b8 t7 4) 0,
 i 45 (.load false 1 t44) 2,
 i 46 (mv t8) 0,
 i 47 (.slice 7 t45 none (some t46) none) 14,
 i 48 (.append 7 64 t43 t47) 31,
 i 49 (.b8 t7 4) 0,
 i 50 (.load false 1 t49) 64,
 i 51 (mv t8) 0,
 i 52 (.bin .add t51 (.c (I 1))) 256,
 i 53 (.slice 7 t50 (some t52) none none) 960,
 i 54 (.append 7 64 t48 t53) 2047,
 i 55 (.b8 t7 4) 4095,
 iz (.store 1 t55 t54) 8191] true)
 (.seq (.b9 [i 56 (mv t0) 0,
 i 57 (.b8 t4 4) 0,
 i 58 (.load false 1 t57) 2,
 i 59 (.load true 7 t7) 0,
 i 60 (.call (.f O8) [t56,t58,t59]) 15,
 i 6 (mv t60) 31] false)
 .ret)))))))⟩
def a8z:u0:=⟨1,6,[.cell 2 true 7],
 .seq (.b9 [i 2 (.alloc z0) 0] false)
 (.seq (.seq (.b9 [i 3 (mv t0) 0] false)
 (.cond t3
 (.seq (.b9 [i 4 (.build z0 [(0,1,.c (I 2)),(2,1,.c (I 1))]) 0,
 iz (.store 7 t2 t4) 1] false)
 .ret)
 .skip))
 (.seq (.b9 [i 5 (.build z0 [(0,1,.c (I 2))]) 0,
 iz (.store 7 t2 t5) 1] false)
 .ret))⟩
def a1E:u0:=⟨3,23,[.cell 6 true 8,.tmp 7],
 .seq (.b9 [i 4 (.box 7 t1) 0,
 i 6 (.alloc z4) 0,
 i 7 (.mv (.c (I 0))) 0] false)
 (.seq (.seq (.b9 [i 8 (mv t0) 0,
 i 9 (.load true 7 t4) 0,
 i 10 (.call (.f C4) [t8,t9]) 3,
 i 11 (.not x3) 7] false)
 (.cond A6
 (.seq (.b9 [i 12 (.build z4 []) 0,
 iz (.store 8 t6 B2) 1,
 i 7 (.mv (.c (I 2))) 3] false)
 .ret)
 .skip))
 (.seq (.seq (.b9 [i 13 (mv t2) 0,
 i 14 (.b8 t4 0) 0,
 i 15 (.load false 1 F6) 2,
 i 16 (.call (.f A0) [D9,K0]) 7,
 i 17 (.not K6) 15] false)
 (.cond H5
 (.seq (.b9 [i 18 (.build z4 []) 0,
 iz (.store 8 t6 N1) 1,
 i 7 (.mv (.c (I 22))) 3] false)
 .ret)
 .skip))
 (.seq (.b9 [i 19 (mv t0) 0,
 i 20 (.build [.emp 7] [(0,1,N7)]) 1,
 i 21 (.load true 7 t4) 0,
 i 22 (.build z4 [(0,1,P0),(1,7,P1)]) 7,
 iz (.store 8 t6 U0) 15,
 i 7 (.mv (.c (I 0))) 31] false)
 .ret)))⟩
def U1:u0:=⟨1,11,[.cell 2 true 7],
 .seq (.b9 [i 1 (.box 8 t0) 0,
 i 2 (.alloc z2) 0] false)
 (.seq (.b9 [i 3 (.b8 t1 0) 0,
 i 4 (.b8 t3 0) 1,
 i 5 (.load false 1 t4) 3,
 i 6 (.b8 t1 1) 0,
 i 7 (.b8 t6 4) 8,
 i 8 (.load false 1 t7) 24,
 i 9 (.m6 7 t5 t8) 63,
 i 10 (.load true 7 t9) 127,
 iz (.store 7 t2 x3) 255] false)
 .ret)⟩
def a1l:u0:=⟨3,25,[.tmp 6],
 .seq (.b9 [i 3 (.box 8 t0) 0,
 i 6 (.mv (.c (I 0))) 0] false)
 (.seq (.seq (.b9 [i 7 (mv t1) 0,
 i 8 (.bin .lss t7 (.c (I 0))) 1,
 i 9 (mv t8) 3,
 ig 10 (mv t1) 9 false 7,
 ig 11 (.b8 t3 1) 9 false 7,
 ig 12 (.b8 A6 6) 9 false 23,
 ig 13 (.load false 1 B2) 9 false 55,
 ig 14 (.bin .gtr x3 D9) 9 false 127,
 i 15 (.pick t9 (.c (.pv (.bool true))) F6) 255,
 i 16 (mv K0) 511,
 ig 17 (mv t2) 16 false 1023,
 ig 18 (.b8 t3 1) 16 false 1023,
 ig 19 (.b8 N1 6) 16 false 3071,
 ig 20 (.load false 1 N7) 16 false 7167,
 ig 21 (mv t1) 16 false 1023,
 ig 22 (.bin .sub P0 P1) 16 false 31743,
 ig 23 (.bin .gtr H5 U0) 16 false 65535,
 i 24 (.pick K6 (.c (.pv (.bool true))) t23) 131071] false)
 (.cond t24
 (.seq (.b9 [i 6 (.mv (.c (I 23))) 0] false)
 .ret)
 .skip))
 (.seq (.b9 [i 6 (.mv (.c (I 0))) 0] false)
 .ret))⟩
def R9:u0:=⟨3,20,[.tmp 6],
 .seq (.b9 [i 6 (.mv (.c (.emp 1))) 0] false)
 (.seq (.b9 [i 8 (mv t0) 0,
 i 9 (.n9 t8) 1,
 i 10 (.b2v 1 1 [.int .u8 (0)] t9) 3,
 i 7 (mv x3) 7] false)
 (.seq (.b9 [i 11 (mv t7) 0,
 i 12 (mv t0) 0,
 i 13 (.copy 1 A6 B2) 3] false)
 (.seq (.b9 [i 14 (mv t7) 0,
 i 15 (mv t1) 0,
 i 16 (.slice 1 F6 (some K0) none none) 3,
 i 17 (mv t2) 0,
 i 18 (.copy 1 K6 H5) 15] false)
 (.seq (.b9 [i 19 (mv t7) 0,
 i 6 (mv N7) 1] false)
 .ret))))⟩
def U2:u0:=⟨2,23,[.tmp 4],
 .seq (.b9 [i 2 (.box 8 t0) 0,
 i 3 (.box 7 t1) 0,
 i 4 (.mv (.c (.emp 7))) 0] false)
 (.seq (.b9 [i 6 (.b8 t2 0) 0,
 i 7 (.b8 t6 0) 1,
 i 8 (.load false 1 t7) 3,
 i 9 (.n9 t8) 7,
 i 10 (.b2v 7 112 [.int .i64 (0),.str [],.sl 7 [],.sl 7 [],.sl 7 [],.int .i64 (0),.int .i64 (0)] t9) 15,
 i 5 (mv x3) 31] false)
 (.seq (.b9 [i 11 (mv t5) 0,
 i 12 (.b8 t2 0) 0,
 i 13 (.b8 B2 0) 2,
 i 14 (.load false 1 D9) 6,
 i 15 (.copy 7 A6 F6) 15] false)
 (.seq (.b9 [i 16 (mv t5) 0,
 i 17 (.b8 t2 1) 0,
 i 18 (.b8 H5 4) 2,
 i 19 (.load false 1 N1) 6,
 i 20 (.load true 7 t3) 0,
 i 21 (.m6 7 K6 N7) 31,
 iz (.store 7 P1 P0) 63] false)
 (.seq (.b9 [i 22 (mv t5) 0,
 i 4 (mv U0) 1] false)
 .ret))))⟩
def a2C:u0:=⟨1,37,[.cell 2 true 7,.tmp 3],
 .seq (.b9 [i 1 (.box 7 t0) 0,
 i 2 (.alloc z0) 0,
 i 3 (.mv (.c (I 0))) 0] false)
 (.seq (.seq (.b9 [i 5 (.load true 7 t1) 0,
 i 6 (.call (.f u5) [t5]) 1,
 i 4 (mv t6) 3] false)
 (.seq (.b9 [i 7 (mv t4) 0,
 i 8 (.bin .neq t7 (.c (I 0))) 1] false)
 (.cond t8
 (.seq (.b9 [i 9 (.build z0 []) 0,
 i 10 (mv t4) 0,
 iz (.store 7 t2 t9) 1,
 i 3 (mv x3) 7] false)
 .ret)
 .skip)))
 (.seq (.seq (.b9 [i 11 (.load true 7 t1) 0,
 i 12 (.b8 t1 1) 0,
 i 13 (.load false 1 B2) 2,
 i 14 (.build z0 [(0,1,.c (I 0)),(1,1,D9)]) 6,
 i 15 (.eqs false [0,1,0,2,0,0,0] A6 F6) 15,
 i 16 (mv K0) 31,
 ig 17 (.b8 t1 0) 16 false 63,
 ig 18 (.load false 1 H5) 16 false 127,
 ig 19 (.bin .eql N1 (.c (I 6))) 16 false 255,
 i 20 (.pick K6 (.c (.pv (.bool true))) N7) 511] false)
 (.cond P0
 (.seq (.b9 [i 21 (.build z0 []) 0,
 iz (.store 7 t2 P1) 1,
 i 3 (.mv (.c (I 22))) 3] false)
 .ret)
 .skip))
 (.seq (.seq (.b9 [i 22 (.b8 t1 0) 0,
 i 23 (.load false 1 U0) 1,
 i 24 (.bin .eql t23 (.c (I 4))) 3,
 i 25 (mv t24) 7,
 ig 26 (.b8 t1 2) 25 true 15,
 ig 27 (.load false 1 t26) 25 true 31,
 ig 28 (.bin .rem t27 (.c (I 65536))) 25 true 63,
 ig 29 (.bin .eql t28 (.c (I 0))) 25 true 127,
 i 30 (.pick t25 t29 (.c (.pv (.bool false)))) 255] false)
 (.cond t30
 (.seq (.b9 [i 31 (.load true 7 t1) 0,
 i 32 (.call (.f M3) [t31]) 1,
 i 33 (.extract t32 0) 3,
 i 34 (.extract t32 1) 3,
 iz (.store 7 t2 t33) 15,
 i 3 (mv t34) 31] false)
 .ret)
 .skip))
 (.seq (.b9 [i 35 (.b8 t1 1) 0,
 iz (.store 1 t35 (.c (.pv (.bool false)))) 1] false)
 (.seq (.b9 [i 36 (.load true 7 t1) 0,
 iz (.store 7 t2 t36) 1,
 i 3 (.mv (.c (I 0))) 3] false)
 .ret)))))⟩
def a1G:u0:=⟨2,11,[.cell 4 true 7,.tmp 5],
 .seq (.b9 [i 3 (.box 1 t1) 0,
 i 4 (.alloc z0) 0,
 i 5 (.mv (.c (I 0))) 0] false)
 (.seq (.b9 [i 6 (mv t0) 0,
 i 7 (.mkf (.func F0) [] [t3]) 0,
 i 8 (.call (.f B0) [t6,t7]) 3,
 i 9 (.extract t8 0) 7,
 i 10 (.extract t8 1) 7,
 iz (.store 7 t4 t9) 31,
 i 5 (mv x3) 63] false)
 .ret)⟩
def O1:u0:=⟨2,19,[.tmp 4],
 .seq (.b9 [i 3 (.box 7 t1) 0,
 i 4 (.mv (.c (I 0))) 0] false)
 (.seq (.seq (.b9 [i 6 (mv t0) 0,
 i 7 (.n9 t6) 1,
 i 8 (.mv (.c (I 0))) 0] false)
 (.block 0
 (.loop [0,3,7,8]
 (.seq (.b9 [i 9 (.bin .lss t8 t7) 0] false)
 (.seq (.cond t9
 .skip
 (.exit 0))
 (.seq (.block 1
 (.seq (.b9 [i 10 (mv t8) 0,
 i 5 (mv x3) 1] false)
 (.seq (.b9 [i 11 (.load true 7 t3) 0,
 i 12 (mv t0) 0,
 i 13 (mv t5) 0,
 i 14 (.m6 7 B2 D9) 6,
 i 15 (.load true 7 F6) 14,
 i 16 (.eqs false [0,1,0,2,0,0,0] A6 K0) 31] true)
 (.cond K6
 (.seq (.b9 [i 17 (mv t5) 0,
 i 4 (mv H5) 1] false)
 .ret)
 .skip))))
 (.b9 [i 18 (.bin .add t8 (.c (I 1))) 0,
 i 8 (mv N1) 1] false)))))))
 (.seq (.b9 [i 4 (.mv (.c (I (-1)))) 0] false)
 .ret))⟩
def K9:u0:=⟨3,20,[.tmp 6],
 .seq (.b9 [i 6 (.mv (.c (.emp 7))) 0] false)
 (.seq (.b9 [i 8 (mv t0) 0,
 i 9 (.n9 t8) 1,
 i 10 (.b2v 7 64 [.int .i64 (0),.bool false,.int .i64 (0),.str [],.int .i64 (0),.int .i64 (0),.int .i64 (0)] t9) 3,
 i 7 (mv x3) 7] false)
 (.seq (.b9 [i 11 (mv t7) 0,
 i 12 (mv t0) 0,
 i 13 (.copy 7 A6 B2) 3] false)
 (.seq (.b9 [i 14 (mv t7) 0,
 i 15 (mv t1) 0,
 i 16 (.slice 7 F6 (some K0) none none) 3,
 i 17 (mv t2) 0,
 i 18 (.copy 7 K6 H5) 15] false)
 (.seq (.b9 [i 19 (mv t7) 0,
 i 6 (mv N7) 1] false)
 .ret))))⟩
def a6d:u0:=⟨1,20,[.tmp 2],
 .seq (.b9 [i 1 (.box 7 t0) 0,
 i 2 (.mv (.c (I 0))) 0] false)
 (.seq (.seq (.b9 [i 3 (.b8 t1 0) 0,
 i 4 (.load false 1 t3) 1,
 i 5 (.bin .eql t4 (.c (I 3))) 3] false)
 (.cond t5
 (.seq (.b9 [i 6 (.b8 t1 5) 0,
 i 7 (.load false 1 t6) 1,
 i 8 (.mm false [t7,.c (I 200)]) 3,
 i 9 (.mm true [.c (I 0),t8]) 7,
 i 10 (.bin .mul (.c (I 2)) t9) 15,
 i 11 (.bin .add (.c (I 1)) x3) 31,
 i 2 (mv A6) 63] false)
 .ret)
 .skip))
 (.seq (.b9 [i 12 (.b8 t1 1) 0,
 i 13 (.load false 1 B2) 1,
 i 14 (.N0 D9) 3,
 i 15 (.bin .add (.c (I 1)) F6) 7,
 i 16 (.b8 t1 2) 0,
 i 17 (.load false 1 K6) 16,
 i 18 (.n9 H5) 48,
 i 19 (.bin .add K0 N1) 127,
 i 2 (mv N7) 255] false)
 .ret))⟩
def a0v:u0:=⟨2,74,[.tmp 4],
 .seq (.b9 [i 2 (.box 1 t0) 0,
 i 3 (.box 7 t1) 0,
 i 4 (.mv (.c (.pv (.bool false)))) 0] false)
 (.seq (.b9 [i 7 (.b8 t3 2) 0,
 i 8 (.load false 1 t7) 1,
 i 9 (.n9 t8) 3,
 i 10 (.b8 t3 3) 0,
 i 11 (.load false 1 x3) 8,
 i 12 (.n9 A6) 24,
 i 13 (.b8 t3 4) 0,
 i 14 (.load false 1 D9) 64,
 i 15 (.n9 F6) 192,
 i 16 (.bin .add B2 K0) 504,
 i 5 (mv t9) 7,
 i 6 (mv K6) 2047] false)
 (.seq (.seq (.b9 [i 17 (.b8 t3 0) 0,
 i 18 (.load false 1 H5) 1] false)
 (.block 0
 (.seq (.b9 [i 20 (.bin .eql N1 (.c (I 1))) 0,
 i 19 (mv P0) 1] false)
 (.cond N7
 (.seq (.b9 [i 21 (mv t5) 0,
 i 22 (mv t6) 0,
 i 23 (.bin .add P1 U0) 3,
 i 24 (.bin .eql t23 (.c (I 0))) 7,
 i 25 (mv t24) 15,
 ig 26 (.b8 t3 5) 25 true 31,
 ig 27 (.load false 1 t26) 25 true 63,
 ig 28 (.bin .eql t27 (.c (I 0))) 25 true 127,
 i 29 (.pick t25 t28 (.c (.pv (.bool false)))) 255,
 i 30 (mv t29) 511,
 ig 31 (.b8 t3 6) 30 true 1023,
 ig 32 (.load false 1 t31) 30 true 2047,
 ig 33 (.bin .eql t32 (.c (I 0))) 30 true 4095,
 i 34 (.pick t30 t33 (.c (.pv (.bool false)))) 8191,
 i 4 (mv t34) 16383] false)
 .ret)
 (.seq (.b9 [i 36 (.bin .eql N1 (.c (I 2))) 0,
 i 35 (mv t36) 1] false)
 (.cond t35
 (.seq (.b9 [i 37 (.b8 t3 1) 0,
 i 38 (.load false 1 t37) 1,
 i 39 (.bin .eql t38 (.c (.pv (.str [])))) 3,
 i 40 (mv t39) 7,
 ig 41 (mv t6) 40 true 15,
 ig 42 (.bin .eql t41 (.c (I 0))) 40 true 31,
 i 43 (.pick t40 t42 (.c (.pv (.bool false)))) 63,
 i 44 (mv t43) 127,
 ig 45 (.b8 t3 5) 44 true 255,
 ig 46 (.load false 1 t45) 44 true 511,
 ig 47 (.bin .eql t46 (.c (I 0))) 44 true 1023,
 i 48 (.pick t44 t47 (.c (.pv (.bool false)))) 2047,
 i 49 (mv t48) 4095,
 ig 50 (.b8 t3 6) 49 true 8191,
 ig 51 (.load false 1 t50) 49 true 16383,
 ig 52 (.bin .eql t51 (.c (I 0))) 49 true 32767,
 i 53 (.pick t49 t52 (.c (.pv (.bool false)))) 65535,
 i 4 (mv t53) 131071] false)
 .ret)
 (.seq (.b9 [i 55 (.bin .eql N1 (.c (I 3))) 0,
 i 54 (mv t55) 1] false)
 (.cond t54
 (.seq (.b9 [i 56 (.b8 t3 1) 0,
 i 57 (.load false 1 t56) 1,
 i 58 (.bin .eql t57 (.c (.pv (.str [])))) 3,
 i 59 (mv t58) 7,
 ig 60 (mv t5) 59 true 15,
 ig 61 (.bin .eql t60 (.c (I 0))) 59 true 31,
 i 62 (.pick t59 t61 (.c (.pv (.bool false)))) 63,
 i 63 (mv t62) 127,
 ig 64 (.b8 t3 6) 63 true 255,
 ig 65 (.load false 1 t64) 63 true 511,
 ig 66 (.bin .eql t65 (.c (I 0))) 63 true 1023,
 i 67 (.pick t63 t66 (.c (.pv (.bool false)))) 2047,
 i 4 (mv t67) 4095] false)
 .ret)
 (.seq (.b9 [i 69 (.bin .eql N1 (.c (I 4))) 0,
 i 68 (mv t69) 1] false)
 (.cond t68
 (.seq (.b9 [i 70 (mv t5) 0,
 i 71 (mv t6) 0,
 i 72 (.bin .add t70 t71) 3,
 i 73 (.bin .eql t72 (.c (I 0))) 7,
 i 4 (mv t73) 15] false)
 .ret)
 .skip))))))))))
 (.seq (.b9 [i 4 (.mv (.c (.pv (.bool false)))) 0] false)
 .ret)))⟩
def S0:u0:=⟨2,73,[.tmp 4],
 .seq (.b9 [i 2 (.box 1 t0) 0,
 i 3 (.box 7 t1) 0,
 i 4 (.mv (.c (.pv (.bool false)))) 0] false)
 (.seq (.seq (.b9 [i 5 (.b8 t3 0) 0,
 i 6 (.load false 1 t5) 1] false)
 (.block 0
 (.seq (.b9 [i 8 (.bin .eql t6 (.c (I 1))) 0,
 i 7 (mv t8) 1] false)
 (.cond t7
 (.seq (.b9 [i 9 (.b8 t3 1) 0,
 i 10 (.load false 1 t9) 1,
 i 11 (.N0 x3) 3,
 i 12 (.bin .leq A6 (.c (I 1000))) 7,
 i 4 (mv B2) 15] false)
 .ret)
 (.seq (.b9 [i 14 (.bin .eql t6 (.c (I 2))) 0,
 i 13 (mv F6) 1] false)
 (.cond D9
 (.seq (.b9 [i 15 (.b8 t3 2) 0,
 i 16 (.load false 1 K0) 1,
 i 17 (.n9 K6) 3,
 i 18 (.bin .leq H5 (.c (I 1000))) 7,
 i 4 (mv N1) 15] false)
 .ret)
 (.seq (.b9 [i 20 (.bin .eql t6 (.c (I 3))) 0,
 i 19 (mv P0) 1] false)
 (.cond N7
 (.seq (.b9 [i 21 (.b8 t3 5) 0,
 i 22 (.load false 1 P1) 1,
 i 23 (.bin .geq U0 (.c (I 0))) 3,
 i 24 (mv t23) 7,
 ig 25 (.b8 t3 5) 24 true 15,
 ig 26 (.load false 1 t25) 24 true 31,
 ig 27 (.bin .leq t26 (.c (I 200))) 24 true 63,
 i 28 (.pick t24 t27 (.c (.pv (.bool false)))) 127,
 i 29 (mv t28) 255,
 ig 30 (.b8 t3 3) 29 true 511,
 ig 31 (.load false 1 t30) 29 true 1023,
 ig 32 (.n9 t31) 29 true 2047,
 ig 33 (.b8 t3 4) 29 true 511,
 ig 34 (.load false 1 t33) 29 true 4607,
 ig 35 (.n9 t34) 29 true 12799,
 ig 36 (.bin .eql t32 t35) 29 true 32767,
 i 37 (.pick t29 t36 (.c (.pv (.bool false)))) 65535,
 i 38 (mv t37) 131071,
 ig 39 (.b8 t3 3) 38 true 262143,
 ig 40 (.load false 1 t39) 38 true 524287,
 ig 41 (.n9 t40) 38 true 1048575,
 ig 42 (.b8 t3 5) 38 true 262143,
 ig 43 (.load false 1 t42) 38 true 2359295,
 ig 44 (.bin .leq t41 t43) 38 true 8388607,
 i 45 (.pick t38 t44 (.c (.pv (.bool false)))) 16777215,
 i 4 (mv t45) 33554431] false)
 .ret)
 .skip))))))))
 (.seq (.b9 [i 46 (.b8 t3 1) 0,
 i 47 (.load false 1 t46) 1,
 i 48 (.N0 t47) 3,
 i 49 (.bin .leq t48 (.c (I 4000))) 7,
 i 50 (mv t49) 15,
 ig 51 (.b8 t3 6) 50 true 31,
 ig 52 (.load false 1 t51) 50 true 63,
 ig 53 (.bin .geq t52 (.c (I 0))) 50 true 127,
 i 54 (.pick t50 t53 (.c (.pv (.bool false)))) 255,
 i 55 (mv t54) 511,
 ig 56 (.b8 t3 6) 55 true 1023,
 ig 57 (.load false 1 t56) 55 true 2047,
 ig 58 (.b8 t3 1) 55 true 1023,
 ig 59 (.load false 1 t58) 55 true 5119,
 ig 60 (.N0 t59) 55 true 13311,
 ig 61 (.bin .leq t57 t60) 55 true 32767,
 i 62 (.pick t55 t61 (.c (.pv (.bool false)))) 65535,
 i 63 (mv t62) 131071,
 ig 64 (.b8 t3 5) 63 true 262143,
 ig 65 (.load false 1 t64) 63 true 524287,
 ig 66 (.bin .eql t65 (.c (I 0))) 63 true 1048575,
 ig 67 (mv t66) 63 true 2097151,
 ig 68 (.b8 t3 5) 67 false 4194303,
 ig 69 (.load false 1 t68) 67 false 8388607,
 ig 70 (.bin .eql t69 (.c (I 1))) 67 false 16777215,
 ig 71 (.pick t67 (.c (.pv (.bool true))) t70) 63 true 33554431,
 i 72 (.pick t63 t71 (.c (.pv (.bool false)))) 67108863,
 i 4 (mv t72) 134217727] false)
 .ret))⟩
def Z0:u0:=⟨2,47,[.cell 4 false 1],
 .seq (.b9 [i 2 (.box 1 t0) 0,
 i 3 (.box 7 t1) 0,
 i 4 (.alloc [.pv (.bool false)]) 0] false)
 (.seq (.seq (.b9 [i 10 (.load true 7 t3) 0,
 i 11 (.call (.f S9) [x3]) 1] false)
 (.block 0
 (.rng A6 [12]
 (.b9 [i 5 (.alloc z0) 0,
 iz (.store 7 t5 B2) 1] false)
 (.block 1
 (.seq (.b9 [i 13 (.b8 t2 0) 0,
 i 14 (.load false 1 D9) 1,
 i 15 (.load true 7 t5) 0,
 i 16 (.call (.f C4) [F6,K0]) 7,
 i 17 (.not K6) 15] false)
 (.cond H5
 (.seq (.b9 [iz (.store 1 t4 (.c (.pv (.bool false)))) 0] false)
 .ret)
 .skip))))))
 (.seq (.seq (.b9 [i 18 (.b8 t3 3) 0,
 i 19 (.load false 1 N1) 1,
 i 20 (.n9 N7) 3,
 i 21 (.mv (.c (I 0))) 0] false)
 (.block 2
 (.loop [3,4,19,20,21]
 (.seq (.b9 [i 22 (.bin .lss P1 P0) 0] false)
 (.seq (.cond U0
 .skip
 (.exit 2))
 (.seq (.block 3
 (.seq (.b9 [i 23 (mv P1) 0,
 i 24 (.m6 7 N7 P1) 0,
 i 25 (.load true 7 t24) 2,
 i 7 (.alloc z0) 0,
 i 6 (mv t23) 15,
 iz (.store 7 t7 t25) 31] false)
 (.seq (.b9 [i 27 (.load true 7 t7) 0,
 i 28 (.call (.f O7) [t27]) 1,
 i 26 (mv t28) 3,
 i 29 (.extract t26 0) 7,
 i 30 (.extract t26 1) 7,
 i 8 (.alloc z0) 0,
 iz (.store 7 t8 t29) 47,
 i 9 (mv t30) 127] false)
 (.seq (.b9 [i 31 (mv t9) 0,
 i 32 (.bin .neq t31 (.c (I 0))) 1,
 i 33 (mv t32) 3,
 ig 34 (.load true 7 t8) 33 false 7,
 ig 35 (.load true 7 t7) 33 false 7,
 ig 36 (.eqs true [0,1,0,2,0,0,0] t34 t35) 33 false 31,
 i 37 (.pick t33 (.c (.pv (.bool true))) t36) 63,
 i 38 (mv t37) 127,
 ig 39 (.b8 t3 3) 38 false 255,
 ig 40 (.load false 1 t39) 38 false 511,
 ig 41 (mv t6) 38 false 255,
 ig 42 (.slice 7 t40 none (some t41) none) 38 false 2047,
 ig 43 (.load true 7 t7) 38 false 255,
 ig 44 (.call (.f H3) [t42,t43]) 38 false 8191,
 i 45 (.pick t38 (.c (.pv (.bool true))) t44) 16383] true)
 (.cond t45
 (.seq (.b9 [iz (.store 1 t4 (.c (.pv (.bool false)))) 0] false)
 .ret)
 .skip)))))
 (.b9 [i 46 (.bin .add P1 (.c (I 1))) 0,
 i 21 (mv t46) 1] false)))))))
 (.seq (.b9 [iz (.store 1 t4 (.c (.pv (.bool true)))) 0] false)
 .ret)))⟩
def W6:u0:=⟨1,89,[.tmp 2],
 .seq (.b9 [i 2 (.mv (.c (.emp 7))) 0] false)
 (.seq (.b9 [i 7 (.call (.f s0) [.c (I 200)]) 0,
 i 8 (.call (.f s0) [.c (I 50)]) 1,
 i 9 (.call (.f s0) [.c (I 30)]) 3,
 i 10 (.call (.f s0) [.c (I 12)]) 7,
 i 11 (.call (.f s0) [.c (I 5)]) 15,
 i 12 (.V7 7 5 z2 [(0,t7),(1,t8),(2,t9),(3,x3),(4,A6)]) 31,
 i 3 (mv B2) 63] false)
 (.seq (.seq (.b9 [i 4 (.mv (.c (I 0))) 0] false)
 (.block 0
 (.loop [0,3,4]
 (.seq (.seq (.b9 [i 13 (mv t4) 0,
 i 14 (mv t0) 0,
 i 15 (.n9 F6) 2,
 i 16 (.bin .lss D9 K0) 7,
 i 17 (mv K6) 15,
 ig 18 (mv t4) 17 true 31,
 ig 19 (.bin .lss N1 (.c (I 200))) 17 true 63,
 i 20 (.pick H5 N7 (.c (.pv (.bool false)))) 127] false)
 (.cond P0
 .skip
 (.exit 0)))
 (.seq (.block 1
 (.seq (.b9 [i 23 (mv t3) 0,
 i 24 (mv t3) 0,
 i 25 (.m6 7 t24 (.c (I 0))) 2,
 i 26 (.b8 t25 3) 6,
 i 27 (.load false 1 t26) 14,
 i 28 (mv t0) 0,
 i 29 (mv t4) 0,
 i 30 (.m6 1 t28 t29) 96,
 i 31 (.load false 1 t30) 224,
 i 32 (.call (.f A5) [t31]) 480,
 i 33 (.V7 7 1 z0 [(0,t32)]) 992,
 i 34 (.append 7 64 t27 t33) 2046,
 i 35 (.m6 7 t23 (.c (I 0))) 4095,
 i 36 (.b8 t35 3) 8191,
 iz (.store 1 t36 t34) 16383] true)
 (.b9 [i 37 (mv t3) 0,
 i 38 (mv t3) 0,
 i 39 (.m6 7 t38 (.c (I 0))) 2,
 i 40 (.b8 t39 4) 6,
 i 41 (.load false 1 t40) 14,
 i 42 (mv t0) 0,
 i 43 (mv t4) 0,
 i 44 (.m6 1 t42 t43) 96,
 i 45 (.load false 1 t44) 224,
 i 46 (.build z0 [(0,1,.c (I 10)),(1,1,.c (.pv (.bool true))),(3,1,t45)]) 480,
 i 47 (.V7 7 1 z0 [(0,t46)]) 992,
 i 48 (.append 7 64 t41 t47) 2046,
 i 49 (.m6 7 t37 (.c (I 0))) 4095,
 i 50 (.b8 t49 4) 8191,
 iz (.store 1 t50 t48) 16383] true)))
 (.b9 [i 21 (mv t4) 0,
 i 22 (.bin .add P1 (.c (I 1))) 1,
 i 4 (mv U0) 3] false))))))
 (.seq (.b9 [i 51 (.call (.f A8) []) 0,
 i 5 (mv t51) 1] false)
 (.seq (.seq (.b9 [i 6 (.mv (.c (I 0))) 0] false)
 (.block 2
 (.loop [3,5,6]
 (.seq (.seq (.b9 [i 52 (mv t6) 0,
 i 53 (mv t5) 0,
 i 54 (.n9 t53) 2,
 i 55 (.bin .lss t52 t54) 7] false)
 (.cond t55
 .skip
 (.exit 2)))
 (.seq (.block 3
 (.seq (.b9 [i 58 (mv t3) 0,
 i 59 (mv t3) 0,
 i 60 (.m6 7 t59 (.c (I 4))) 2,
 i 61 (.b8 t60 3) 6,
 i 62 (.load false 1 t61) 14,
 i 63 (mv t5) 0,
 i 64 (mv t6) 0,
 i 65 (.m6 1 t63 t64) 96,
 i 66 (.load false 1 t65) 224,
 i 67 (.call (.f A5) [t66]) 480,
 i 68 (.V7 7 1 z0 [(0,t67)]) 992,
 i 69 (.append 7 64 t62 t68) 2046,
 i 70 (.m6 7 t58 (.c (I 4))) 4095,
 i 71 (.b8 t70 3) 8191,
 iz (.store 1 t71 t69) 16383] true)
 (.seq (.b9 [i 72 (mv t3) 0,
 i 73 (mv t3) 0,
 i 74 (.m6 7 t73 (.c (I 4))) 2,
 i 75 (.b8 t74 4) 6,
 i 76 (.load false 1 t75) 14,
 i 77 (mv t6) 0,
 i 78 (.bin .add (.c (I 5)) t77) 32,
 i 79 (.build z0 [(0,1,.c (I 9)),(4,1,t78)]) 96,
 i 80 (.V7 7 1 z0 [(0,t79)]) 224,
 i 81 (.append 7 64 t76 t80) 510,
 i 82 (.m6 7 t72 (.c (I 4))) 1023,
 i 83 (.b8 t82 4) 2047,
 iz (.store 1 t83 t81) 4095] false)
 (.b9 [i 84 (mv t3) 0,
 i 85 (.call (.f s0) [.c (I 10)]) 0,
 i 86 (.V7 7 1 z2 [(0,t85)]) 2,
 i 87 (.append 7 112 t84 t86) 7,
 i 3 (mv t87) 15] false))))
 (.b9 [i 56 (mv t6) 0,
 i 57 (.bin .add t56 (.c (I 1))) 1,
 i 6 (mv t57) 3] false))))))
 (.seq (.b9 [i 88 (mv t3) 0,
 i 2 (mv t88) 1] false)
 .ret)))))⟩
def y8:u0:=⟨2,139,[.cell 4 true 7],
 .seq (.b9 [i 2 (.box 5 t0) 0,
 i 4 (.alloc z2) 0] false)
 (.seq (.b9 [i 12 (.b8 t2 4) 0,
 i 13 (.load false 1 B2) 1,
 i 14 (.b8 t2 4) 0,
 i 15 (.load false 1 F6) 4,
 i 16 (.N0 K0) 12,
 i 17 (.mm false [K6,.c (I 40)]) 28,
 i 18 (.a3w D9 none (some H5)) 63,
 i 5 (mv N1) 127] false)
 (.seq (.seq (.b9 [i 19 (.b8 t2 0) 0,
 i 20 (.load false 1 N7) 1,
 i 21 (.bin .rem P0 (.c (.pv (.int .u8 (5))))) 3] false)
 (.block 0
 (.seq (.seq (.b9 [i 23 (.bin .eql P1 (.c (.pv (.int .u8 (0))))) 0,
 i 22 (mv t23) 1] false)
 (.cond U0
 .skip
 (.b9 [i 24 (.bin .eql P1 (.c (.pv (.int .u8 (1))))) 0,
 i 22 (mv t24) 1] false)))
 (.cond U0
 (.seq (.b9 [i 25 (mv t5) 0,
 i 26 (.build z2 [(0,1,.c (I 1)),(1,1,t25)]) 1,
 iz (.store 7 t4 t26) 3] false)
 .ret)
 (.seq (.b9 [i 28 (.bin .eql P1 (.c (.pv (.int .u8 (2))))) 0,
 i 27 (mv t28) 1] false)
 (.cond t27
 (.seq (.b9 [i 29 (.build z2 [(0,1,.c (I 2))]) 0,
 i 6 (.alloc z2) 0,
 iz (.store 7 t6 t29) 3] false)
 (.seq (.seq (.b9 [i 7 (.mv (.c (I 0))) 0] false)
 (.block 1
 (.loop [1,2,4,6,7]
 (.seq (.seq (.b9 [i 30 (mv t7) 0,
 i 31 (.b8 t2 1) 0,
 i 32 (.load false 1 t31) 2,
 i 33 (.bin .rem t32 (.c (.pv (.int .u8 (6))))) 6,
 i 34 (.conv .i64 t33) 14,
 i 35 (.bin .lss t30 t34) 31] false)
 (.cond t35
 .skip
 (.exit 1)))
 (.seq (.block 2
 (.seq (.b9 [i 38 (.b8 t2 2) 0,
 i 39 (.load false 1 t38) 1,
 i 40 (mv t7) 0,
 i 41 (.bin .mul (.c (I 5)) t40) 4,
 i 42 (.conv .u8 t41) 12,
 i 43 (.bin .add t39 t42) 31,
 i 44 (.b8 t2 1) 0,
 i 45 (.load false 1 t44) 64,
 i 46 (mv t7) 0,
 i 47 (.conv .u8 t46) 256,
 i 48 (.bin .add t45 t47) 960,
 i 49 (.b8 t2 2) 0,
 i 50 (.load false 1 t49) 2048,
 i 51 (mv t7) 0,
 i 52 (.bin .add t51 (.c (I 1))) 8192,
 i 53 (.conv .u8 t52) 24576,
 i 54 (.bin .mul t50 t53) 63488,
 i 55 (.b8 t2 3) 0,
 i 56 (.load false 1 t55) 131072,
 i 57 (mv t7) 0,
 i 58 (.bin .add t57 (.c (I 1))) 524288,
 i 59 (.conv .i32 t58) 1572864,
 i 60 (.bin .quo t56 t59) 4063232,
 i 61 (.build [.pv (.int .u8 (0)),.pv (.int .u8 (0)),.pv (.int .u8 (0)),.pv (.int .i32 (0)),.pv (.str [])] [(0,1,t43),(1,1,t48),(2,1,t54),(3,1,t60)]) 8388607,
 i 8 (.alloc [.pv (.int .u8 (0)),.pv (.int .u8 (0)),.pv (.int .u8 (0)),.pv (.int .i32 (0)),.pv (.str [])]) 0,
 iz (.store 5 t8 t61) 33554431] true)
 (.b9 [i 62 (.b8 t6 2) 0,
 i 63 (.load false 1 t62) 1,
 i 64 (.load true 5 t8) 0,
 i 65 (mv t1) 0,
 i 66 (.call (.f n5) [t64,t65]) 12,
 i 67 (.V7 7 1 z0 [(0,t66)]) 28,
 i 68 (.append 7 64 t63 t67) 63,
 i 69 (.b8 t6 2) 127,
 iz (.store 1 t69 t68) 255] true)))
 (.b9 [i 36 (mv t7) 0,
 i 37 (.bin .add t36 (.c (I 1))) 1,
 i 7 (mv t37) 3] false))))))
 (.seq (.b9 [i 70 (.load true 7 t6) 0,
 iz (.store 7 t4 t70) 1] false)
 .ret)))
 (.seq (.b9 [i 72 (.bin .eql P1 (.c (.pv (.int .u8 (3))))) 0,
 i 71 (mv t72) 1] false)
 (.cond t71
 (.seq (.b9 [i 73 (.b8 t2 1) 0,
 i 74 (.load false 1 t73) 1,
 i 75 (.bin .rem t74 (.c (.pv (.int .u8 (6))))) 3,
 i 76 (.conv .i64 t75) 7,
 i 77 (.call (.f s0) [t76]) 15,
 i 9 (.alloc z2) 0,
 iz (.store 7 t9 t77) 63] false)
 (.seq (.seq (.b9 [i 10 (.mv (.c (I 0))) 0] false)
 (.block 3
 (.loop [1,2,4,9,10]
 (.seq (.seq (.b9 [i 78 (mv x3) 0,
 i 79 (.b8 t2 2) 0,
 i 80 (.load false 1 t79) 2,
 i 81 (.bin .rem t80 (.c (.pv (.int .u8 (4))))) 6,
 i 82 (.conv .i64 t81) 14,
 i 83 (.bin .lss t78 t82) 31,
 i 84 (mv t83) 63,
 ig 85 (mv x3) 84 true 127,
 ig 86 (.b8 t9 5) 84 true 127,
 ig 87 (.load false 1 t86) 84 true 383,
 ig 88 (.bin .lss t85 t87) 84 true 1023,
 i 89 (.pick t84 t88 (.c (.pv (.bool false)))) 2047] false)
 (.cond t89
 .skip
 (.exit 3)))
 (.seq (.block 4
 (.seq (.b9 [i 92 (.b8 t2 2) 0,
 i 93 (.load false 1 t92) 1,
 i 94 (mv x3) 0,
 i 95 (.bin .mul (.c (I 3)) t94) 4,
 i 96 (.conv .u8 t95) 12,
 i 97 (.bin .add t93 t96) 31,
 i 98 (.b8 t2 1) 0,
 i 99 (.load false 1 t98) 64,
 i 100 (mv x3) 0,
 i 101 (.conv .u8 c3I) 256,
 i 102 (.bin .add t99 c3J) 960,
 i 103 (.b8 t2 2) 0,
 i 104 (.load false 1 c2s) 2048,
 i 105 (.b8 t2 3) 0,
 i 106 (.load false 1 c3M) 8192,
 i 107 (.build [.pv (.int .u8 (0)),.pv (.int .u8 (0)),.pv (.int .u8 (0)),.pv (.int .i32 (0)),.pv (.str [])] [(0,1,t97),(1,1,c3K),(2,1,c3L),(3,1,c3N)]) 32767,
 i 11 (.alloc [.pv (.int .u8 (0)),.pv (.int .u8 (0)),.pv (.int .u8 (0)),.pv (.int .i32 (0)),.pv (.str [])]) 0,
 iz (.store 5 A6 c3O) 131071] false)
 (.seq (.b9 [i 108 (.b8 t9 3) 0,
 i 109 (.load false 1 c3P) 1,
 i 110 (mv x3) 0,
 i 111 (.a7I 8 1 (.g 0) c3R) 4,
 i 112 (.load false 1 c0s) 12,
 i 113 (.call (.f A5) [c3S]) 28,
 i 114 (.V7 7 1 z0 [(0,c3T)]) 60,
 i 115 (.append 7 64 c3Q c3U) 127,
 i 116 (.b8 t9 3) 255,
 iz (.store 1 c3W c3V) 511] true)
 (.b9 [i 117 (.b8 t9 4) 0,
 i 118 (.load false 1 c3X) 1,
 i 119 (.load true 5 A6) 0,
 i 120 (mv t1) 0,
 i 121 (.call (.f n5) [c3Z,c4a]) 12,
 i 122 (.V7 7 1 z0 [(0,c4b)]) 28,
 i 123 (.append 7 64 c3Y c2t) 63,
 i 124 (.b8 t9 4) 127,
 iz (.store 1 c4d c4c) 255] true))))
 (.b9 [i 90 (mv x3) 0,
 i 91 (.bin .add t90 (.c (I 1))) 1,
 i 10 (mv t91) 3] false))))))
 (.seq (.b9 [i 125 (.load true 7 t9) 0,
 iz (.store 7 t4 c4e) 1] false)
 .ret)))
 .skip))))))))
 (.seq (.b9 [i 126 (mv t5) 0,
 i 127 (.b8 t2 1) 0,
 i 128 (.load false 1 c4g) 2,
 i 129 (.conv .i64 c4h) 6,
 i 130 (mv t5) 0,
 i 131 (.N0 c4j) 16,
 i 132 (.bin .add c4k (.c (I 1))) 48,
 i 133 (.bin .rem c4i c4l) 126,
 i 134 (.b8 t2 2) 0,
 i 135 (.load false 1 c4n) 256,
 i 136 (.bin .rem c4o (.c (.pv (.int .u8 (2))))) 768,
 i 137 (.conv .i64 c2u) 1792,
 i 138 (.build z2 [(0,1,.c (I 4)),(1,1,c4f),(6,1,c4m),(5,1,c4p)]) 4095,
 iz (.store 7 t4 c4q) 8191] true)
 .ret)))⟩
def a8C:u0:=⟨4,76,[.cell 8 true 7],
 .seq (.b9 [i 7 (.box 5 t3) 0,
 i 8 (.alloc z0) 0] false)
 (.seq (.b9 [i 11 (mv t0) 0,
 i 12 (mv t2) 0,
 i 13 (.b8 t7 1) 0,
 i 14 (.load false 1 D9) 4,
 i 15 (.conv .i64 F6) 12,
 i 16 (.call (.f J8) [A6,B2,K0]) 31,
 i 9 (mv K6) 63] false)
 (.seq (.seq (.b9 [i 17 (mv t9) 0,
 i 18 (.bin .lss H5 (.c (I 0))) 1] false)
 (.cond N1
 (.seq (.b9 [i 19 (.b8 t7 1) 0,
 i 20 (.load false 1 N7) 1,
 i 21 (.conv .i64 P0) 3,
 i 22 (.build z0 [(0,1,.c (I 3)),(2,1,P1)]) 7,
 iz (.store 7 t8 U0) 15] false)
 .ret)
 .skip))
 (.seq (.b9 [i 23 (mv t1) 0,
 i 24 (.b8 t7 3) 0,
 i 25 (.load false 1 t24) 2,
 i 26 (.bin .rem t25 (.c (.pv (.int .i32 (5))))) 6,
 i 27 (.bin .eql t26 (.c (.pv (.int .i32 (3))))) 14,
 i 28 (mv t9) 0,
 i 29 (.build z0 [(0,1,t23),(1,1,t27),(4,1,t28)]) 63,
 i 10 (.alloc z0) 0,
 iz (.store 7 x3 t29) 255] false)
 (.seq (.seq (.b9 [i 30 (mv t2) 0,
 i 31 (.bin .eql t30 (.c (I 3))) 1,
 i 32 (mv t31) 3,
 ig 33 (mv t2) 32 false 7,
 ig 34 (.bin .eql t33 (.c (I 4))) 32 false 15,
 i 35 (.pick t32 (.c (.pv (.bool true))) t34) 31] false)
 (.cond t35
 (.seq (.b9 [i 36 (.load true 7 x3) 0,
 iz (.store 7 t8 t36) 1] false)
 .ret)
 .skip))
 (.seq (.b9 [i 37 (mv t0) 0,
 i 38 (mv t9) 0,
 i 39 (.m6 7 t37 t38) 3,
 i 40 (.b8 t39 1) 7,
 i 41 (.load false 1 t40) 15,
 i 42 (.N0 t41) 31,
 i 43 (mv t0) 0,
 i 44 (mv t9) 0,
 i 45 (.m6 7 t43 t44) 192,
 i 46 (.b8 t45 2) 448,
 i 47 (.load false 1 t46) 960,
 i 48 (.n9 t47) 1984,
 i 49 (.bin .add t42 t48) 4095,
 i 50 (.b8 x3 6) 8191,
 iz (.store 1 t50 t49) 16383] true)
 (.seq (.seq (.b9 [i 51 (.b8 t7 2) 0,
 i 52 (.load false 1 t51) 1,
 i 53 (.bin .rem t52 (.c (.pv (.int .u8 (3))))) 3,
 i 54 (.bin .eql t53 (.c (.pv (.int .u8 (2))))) 7] false)
 (.cond t54
 (.seq (.b9 [i 55 (.b8 t7 2) 0,
 i 56 (.load false 1 t55) 1,
 i 57 (.conv .i64 t56) 3,
 i 58 (.b8 x3 6) 0,
 i 59 (.load false 1 t58) 8,
 i 60 (.bin .add t59 (.c (I 1))) 24,
 i 61 (.bin .rem t57 t60) 63,
 i 62 (.b8 x3 5) 127,
 iz (.store 1 t62 t61) 255] false)
 (.b9 [i 63 (.b8 t7 2) 0,
 i 64 (.load false 1 t63) 1,
 i 65 (.conv .i64 t64) 3,
 i 66 (.bin .quo t65 (.c (I 3))) 7,
 i 67 (.b8 x3 6) 0,
 i 68 (.load false 1 t67) 16,
 i 69 (.b8 x3 5) 0,
 i 70 (.load false 1 t69) 64,
 i 71 (.bin .sub t68 t70) 240,
 i 72 (.bin .add t71 (.c (I 1))) 496,
 i 73 (.bin .rem t66 t72) 1023,
 i 74 (.b8 x3 6) 2047,
 iz (.store 1 t74 t73) 4095] false))
 .skip))
 (.seq (.b9 [i 75 (.load true 7 x3) 0,
 iz (.store 7 t8 t75) 1] false)
 .ret)))))))⟩
def a0w:u0:=⟨1,30,[.tmp 2],
 .seq (.b9 [i 1 (.box 7 t0) 0,
 i 2 (.mv (.c (I 0))) 0] false)
 (.scope
 (.seq (.seq (.b9 [i 7 (.b8 t1 0) 0,
 i 8 (.load false 1 t7) 1,
 i 9 (.bin .lss t8 (.c (I 0))) 3,
 i 10 (mv t9) 7,
 ig 11 (.b8 t1 0) 10 false 15,
 ig 12 (.load false 1 A6) 10 false 31,
 ig 13 (.bin .geq B2 (.c (I 13))) 10 false 63,
 i 14 (.pick x3 (.c (.pv (.bool true))) D9) 127] false)
 (.cond F6
 (.seq (.b9 [i 2 (.mv (.c (I 200))) 0] false)
 .ret)
 .skip))
 (.seq (.b9 [i 15 (.call (.f M4) []) 0,
 i 16 (.b8 t1 0) 0,
 i 17 (.load false 1 K6) 2,
 i 18 (.index true 13 6 K0 H5) 7,
 i 3 (.alloc z3) 0,
 iz (.store 6 t3 N1) 31] true)
 (.seq (.b9 [i 4 (.mv (.c (I 0))) 0] false)
 (.seq .skip
 (.seq (.seq (.b9 [i 19 (.build [.pv .nilFunc,.pv .nilFunc,.pv .nilFunc] [(0,1,.f x6),(1,1,.f y5),(2,1,.f u6)]) 0,
 i 20 (.mv (.c (I 0))) 0] false)
 (.block 0
 (.loop [1,3,4,19,20]
 (.seq (.b9 [i 21 (.bin .lss P0 (.c (I 3))) 0] false)
 (.seq (.cond P1
 .skip
 (.exit 0))
 (.seq (.block 1
 (.seq (.b9 [i 22 (.index false 3 1 N7 P0) 0,
 i 6 (mv U0) 1] false)
 (.seq (.b9 [i 23 (mv t6) 0,
 i 24 (.load true 6 t3) 0,
 i 25 (.load true 7 t1) 0,
 i 26 (.call t23 [t24,t25]) 7,
 i 27 (.not t26) 15] false)
 (.cond t27
 (.seq (.b9 [i 4 (.mv (.c (I 200))) 0] false)
 (.exit 0))
 .skip))))
 (.b9 [i 28 (.bin .add P0 (.c (I 1))) 0,
 i 20 (mv t28) 1] false)))))))
 (.seq (.b9 [i 29 (mv t4) 0,
 i 2 (mv t29) 1] false)
 .ret)))))))⟩
def a1D:u0:=⟨1,12,[.tmp 2],
 .seq (.b9 [i 1 (.box 7 t0) 0,
 i 2 (.mv (.c (I 0))) 0] false)
 (.seq (.seq (.b9 [i 3 (.b8 t1 0) 0,
 i 4 (.load false 1 t3) 1,
 i 5 (.bin .eql t4 (.c (I 1))) 3] false)
 (.cond t5
 (.seq (.b9 [i 6 (.b8 t1 1) 0,
 i 7 (.load false 1 t6) 1,
 i 8 (.N0 t7) 3,
 i 2 (mv t8) 7] false)
 .ret)
 .skip))
 (.seq (.b9 [i 9 (.b8 t1 2) 0,
 i 10 (.load false 1 t9) 1,
 i 11 (.n9 x3) 3,
 i 2 (mv A6) 7] false)
 .ret))⟩
def a0z:u0:=⟨1,16,[.tmp 2,.tmp 3],
 .seq (.b9 [i 1 (.box 7 t0) 0,
 i 2 (.mv (.c (I 0))) 0,
 i 3 (.mv (.c (I 0))) 2] false)
 (.seq (.b9 [i 7 (.load true 7 t1) 0,
 i 8 (.call (.f B7) [t7]) 1,
 i 6 (mv t8) 3,
 i 9 (.extract t6 0) 7,
 i 10 (.extract t6 1) 7,
 i 4 (.alloc z0) 0,
 iz (.store 7 t4 t9) 47,
 i 5 (mv x3) 127] false)
 (.seq (.seq (.b9 [i 11 (mv t5) 0,
 i 12 (.bin .neq A6 (.c (I 0))) 1] false)
 (.cond B2
 (.seq (.b9 [i 13 (mv t5) 0,
 i 2 (.mv (.c (I 0))) 0,
 i 3 (mv D9) 3] false)
 .ret)
 .skip))
 (.seq (.b9 [i 14 (.load true 7 t4) 0,
 i 15 (.call (.f w9) [F6]) 1,
 i 2 (mv K0) 3,
 i 3 (.mv (.c (I 0))) 7] false)
 .ret)))⟩
def a7s:u0:=⟨2,19,[.tmp 4],
 .seq (.b9 [i 3 (.box 7 t1) 0,
 i 4 (.mv (.c (.pv (.str [])))) 0] false)
 (.seq (.b9 [i 5 (mv t0) 0,
 i 6 (.b8 t3 4) 0,
 i 7 (.load false 1 t6) 2,
 i 8 (.m6 7 t5 t7) 7,
 i 9 (.b8 t8 1) 15,
 i 10 (.load false 1 t9) 31,
 i 11 (.b8 t3 5) 0,
 i 12 (.load false 1 A6) 64,
 i 13 (.b8 t3 5) 0,
 i 14 (.load false 1 D9) 256,
 i 15 (.b8 t3 6) 0,
 i 16 (.load false 1 K0) 1024,
 i 17 (.bin .add F6 K6) 3840,
 i 18 (.a3w x3 (some B2) (some H5)) 8191,
 i 4 (mv N1) 16383] true)
 .ret)⟩
def F7:u0:=⟨2,29,[],
 .seq (.b9 [i 7 (.b8 t1 2) 0,
 i 8 (.load false 1 t7) 1,
 i 9 (.b8 t1 3) 0,
 i 10 (.load false 1 t9) 4,
 i 11 (.b8 t1 4) 0,
 i 12 (.load false 1 A6) 16,
 i 13 (.build [.emp 7,.emp 7,.emp 7] [(0,1,t8),(1,1,x3),(2,1,B2)]) 63,
 i 14 (.mv (.c (I 0))) 0] false)
 (.block 0
 (.loop [0,13,14]
 (.seq (.b9 [i 15 (.bin .lss F6 (.c (I 3))) 0] false)
 (.seq (.cond K0
 .skip
 (.exit 0))
 (.seq (.block 1
 (.seq (.b9 [i 16 (.index false 3 1 D9 F6) 0,
 i 4 (mv K6) 1] false)
 (.seq (.b9 [i 17 (mv t4) 0,
 i 18 (.n9 H5) 1,
 i 19 (.mv (.c (I 0))) 0] false)
 (.block 2
 (.loop [0,13,14,17,18,19]
 (.seq (.b9 [i 20 (.bin .lss N7 N1) 0] false)
 (.seq (.cond P0
 .skip
 (.exit 2))
 (.seq (.block 3
 (.seq (.b9 [i 21 (.m6 7 H5 N7) 0,
 i 22 (.load true 7 P1) 1,
 i 6 (.alloc z0) 0,
 iz (.store 7 t6 U0) 7] false)
 (.seq (.b9 [i 23 (mv t0) 0,
 i 24 (.load true 7 t6) 0,
 i 25 (.call t23 [t24]) 3,
 i 26 (.not t25) 7] false)
 (.cond t26
 .ret
 .skip))))
 (.b9 [i 27 (.bin .add N7 (.c (I 1))) 0,
 i 19 (mv t27) 1] false)))))))))
 (.b9 [i 28 (.bin .add F6 (.c (I 1))) 0,
 i 14 (mv t28) 1] false))))))⟩
def D6:u0:=⟨2,32,[.cell 4 true 7,.tmp 5],
 .seq (.b9 [i 2 (.box 67 t0) 0,
 i 3 (.box 7 t1) 0,
 i 4 (.alloc z0) 0,
 i 5 (.mv (.c (I 0))) 0] false)
 (.seq (.b9 [i 10 (.b8 t2 0) 0,
 i 11 (.b8 x3 2) 1,
 i 12 (.load false 1 A6) 3,
 i 13 (.build z0 [(0,1,.c (I 9)),(4,1,.c (I 4))]) 0,
 i 14 (.load true 7 t3) 0,
 i 15 (.call (.f J4) [B2,D9,F6]) 31,
 i 9 (mv K0) 63,
 i 16 (.extract t9 0) 127,
 i 17 (.extract t9 1) 127,
 i 18 (.extract t9 2) 127,
 i 6 (.alloc z0) 0,
 iz (.store 7 t6 K6) 1279,
 i 7 (mv H5) 3583,
 i 8 (mv N1) 8191] false)
 (.seq (.seq (.b9 [i 19 (mv t8) 0,
 i 20 (.bin .neq N7 (.c (I 0))) 1,
 i 21 (mv P0) 3,
 ig 22 (mv t7) 21 false 7,
 ig 23 (.not U0) 21 false 15,
 i 24 (.pick P1 (.c (.pv (.bool true))) t23) 31,
 i 25 (mv t24) 63,
 ig 26 (.b8 t6 0) 25 false 127,
 ig 27 (.load false 1 t26) 25 false 255,
 ig 28 (.bin .neq t27 (.c (I 9))) 25 false 511,
 i 29 (.pick t25 (.c (.pv (.bool true))) t28) 1023] false)
 (.cond t29
 (.seq (.b9 [i 30 (.build z0 []) 0,
 iz (.store 7 t4 t30) 1,
 i 5 (.mv (.c (I 24))) 3] false)
 .ret)
 .skip))
 (.seq (.b9 [i 31 (.load true 7 t6) 0,
 iz (.store 7 t4 t31) 1,
 i 5 (.mv (.c (I 0))) 3] false)
 .ret)))⟩
def L6:u0:=⟨3,29,[.cell 6 true 7,.tmp 7],
 .seq (.b9 [i 3 (.box 67 t0) 0,
 i 4 (.box 7 t1) 0,
 i 5 (.box 7 t2) 0,
 i 6 (.alloc z0) 0,
 i 7 (.mv (.c (I 0))) 0] false)
 (.seq (.b9 [i 12 (.b8 t3 0) 0,
 i 13 (.b8 B2 2) 1,
 i 14 (.load false 1 D9) 3,
 i 15 (.load true 7 t4) 0,
 i 16 (.load true 7 t5) 0,
 i 17 (.call (.f J4) [F6,K0,K6]) 31,
 i 11 (mv H5) 63,
 i 18 (.extract A6 0) 127,
 i 19 (.extract A6 1) 127,
 i 20 (.extract A6 2) 127,
 i 8 (.alloc z0) 0,
 iz (.store 7 t8 N1) 1279,
 i 9 (mv N7) 3583,
 i 10 (mv P0) 8191] false)
 (.seq (.seq (.b9 [i 21 (mv x3) 0,
 i 22 (.bin .eql P1 (.c (I 0))) 1,
 i 23 (mv U0) 3,
 ig 24 (mv t9) 23 true 7,
 ig 25 (.not t24) 23 true 15,
 i 26 (.pick t23 t25 (.c (.pv (.bool false)))) 31] false)
 (.cond t26
 (.b9 [i 10 (.mv (.c (I 40))) 0] false)
 .skip))
 (.seq (.b9 [i 27 (.load true 7 t8) 0,
 i 28 (mv x3) 0,
 iz (.store 7 t6 t27) 1,
 i 7 (mv t28) 7] false)
 .ret)))⟩
def a5i:u0:=⟨3,36,[.tmp 6],
 .seq (.b9 [i 6 (.mv (.c (I 0))) 0] false)
 (.seq (.b9 [i 7 (.mv (.c (.emp 1))) 0] false)
 (.seq (.seq (.b9 [i 8 (.mv (.c (I 0))) 0] false)
 (.block 0
 (.loop [0,1,2,7,8]
 (.seq (.seq (.b9 [i 9 (mv t8) 0,
 i 10 (mv t0) 0,
 i 11 (.n9 x3) 2,
 i 12 (.bin .lss t9 A6) 7] false)
 (.cond B2
 .skip
 (.exit 0)))
 (.seq (.block 1
 (.seq (.b9 [i 15 (mv t0) 0,
 i 16 (mv t8) 0,
 i 17 (.m6 7 K0 K6) 3,
 i 18 (.b8 H5 0) 7,
 i 19 (.load false 1 N1) 15,
 i 20 (mv t1) 0,
 i 21 (.bin .eql N7 P0) 63] false)
 (.cond P1
 (.b9 [i 22 (mv t7) 0,
 i 23 (mv t8) 0,
 i 24 (.V7 1 1 [I 0] [(0,t23)]) 2,
 i 25 (.append 1 8 U0 t24) 7,
 i 7 (mv t25) 15] false)
 .skip)))
 (.b9 [i 13 (mv t8) 0,
 i 14 (.bin .add D9 (.c (I 1))) 1,
 i 8 (mv F6) 3] false))))))
 (.seq (.seq (.b9 [i 26 (mv t7) 0,
 i 27 (.n9 t26) 1,
 i 28 (.bin .eql t27 (.c (I 0))) 3] false)
 (.cond t28
 (.seq (.b9 [i 6 (.mv (.c (I (-1)))) 0] false)
 .ret)
 .skip))
 (.seq (.b9 [i 29 (mv t7) 0,
 i 30 (mv t2) 0,
 i 31 (mv t7) 0,
 i 32 (.n9 t31) 4,
 i 33 (.bin .rem t30 t32) 14,
 i 34 (.m6 1 t29 t33) 31,
 i 35 (.load false 1 t34) 63,
 i 6 (mv t35) 127] false)
 .ret))))⟩
def a6i:u0:=⟨2,27,[.tmp 4,.tmp 5],
 .seq (.b9 [i 2 (.box 67 t0) 0,
 i 4 (.mv (.c (.emp 7))) 0,
 i 5 (.mv (.c (I 0))) 2] false)
 (.seq (.seq (.b9 [i 6 (mv t1) 0,
 i 7 (.bin .lss t6 (.c (I 0))) 1] false)
 (.cond t7
 (.seq (.b9 [i 4 (.mv (.c (.emp 7))) 0,
 i 5 (.mv (.c (I 2))) 1] false)
 .ret)
 .skip))
 (.seq (.seq (.b9 [i 8 (mv t1) 0,
 i 9 (.b8 t2 0) 0,
 i 10 (.load false 1 t9) 2,
 i 11 (.n9 x3) 6,
 i 12 (.bin .gtr t8 A6) 15] false)
 (.cond B2
 (.seq (.b9 [i 4 (.mv (.c (.emp 7))) 0,
 i 5 (.mv (.c (I 20))) 1] false)
 .ret)
 .skip))
 (.seq (.b9 [i 13 (.b8 t2 0) 0,
 i 14 (.load false 1 D9) 1,
 i 15 (.b8 t2 0) 0,
 i 16 (.load false 1 K0) 4,
 i 17 (.n9 K6) 12,
 i 18 (mv t1) 0,
 i 19 (.bin .sub H5 N1) 60,
 i 20 (.b8 t2 0) 0,
 i 21 (.load false 1 P0) 128,
 i 22 (.n9 P1) 384,
 i 23 (.b8 t2 0) 0,
 i 24 (.load false 1 t23) 1024,
 i 25 (.n9 t24) 3072,
 i 26 (.slice 7 F6 (some N7) (some U0) (some t25)) 8191,
 i 4 (mv t26) 16383,
 i 5 (.mv (.c (I 0))) 32767] false)
 .ret)))⟩
def a1p:u0:=⟨2,26,[.tmp 4],
 .seq (.b9 [i 3 (.box 7 t1) 0,
 i 4 (.mv (.c (.pv (.bool false)))) 0] false)
 (.scope
 (.seq (.b9 [i 5 (.mv (.c (.pv (.bool true)))) 0] false)
 (.seq .skip
 (.seq (.seq (.b9 [i 8 (.build [.pv (.str []),.pv .nilFunc] [(0,1,.c (.pv (.str [70,111,110,116]))),(1,1,.f y9)]) 0,
 i 9 (.build [.pv (.str []),.pv .nilFunc] [(0,1,.c (.pv (.str [80,97,116,116,101,114,110]))),(1,1,.f y9)]) 0,
 i 10 (.build [.pv (.str []),.pv .nilFunc] [(0,1,.c (.pv (.str [70,111,114,109]))),(1,1,.f y9)]) 0,
 i 11 (.build [.pv (.str []),.pv .nilFunc] [(0,1,.c (.pv (.str [69,110,99,111,100,105,110,103]))),(1,1,.f D1)]) 0,
 i 12 (.build [.pv (.str []),.pv .nilFunc,.pv (.str []),.pv .nilFunc,.pv (.str []),.pv .nilFunc,.pv (.str []),.pv .nilFunc] [(0,2,t8),(2,2,t9),(4,2,x3),(6,2,A6)]) 15,
 i 13 (.mv (.c (I 0))) 0] false)
 (.block 0
 (.loop [0,3,5,12,13]
 (.seq (.b9 [i 14 (.bin .lss D9 (.c (I 4))) 0] false)
 (.seq (.cond F6
 .skip
 (.exit 0))
 (.seq (.block 1
 (.seq (.b9 [i 15 (.index true 4 2 B2 D9) 0,
 i 7 (.alloc [.pv (.str []),.pv .nilFunc]) 0,
 iz (.store 2 t7 K0) 3] false)
 (.seq (.b9 [i 16 (.b8 t7 0) 0,
 i 17 (.load false 1 K6) 1,
 i 18 (mv t0) 0,
 i 19 (.bin .eql H5 N1) 7] false)
 (.cond N7
 (.seq (.b9 [i 20 (.b8 t7 1) 0,
 i 21 (.load false 1 P0) 1,
 i 22 (.load true 7 t3) 0,
 i 23 (.call P1 [U0]) 7,
 i 5 (mv t23) 15] false)
 (.exit 0))
 .skip))))
 (.b9 [i 24 (.bin .add D9 (.c (I 1))) 0,
 i 13 (mv t24) 1] false)))))))
 (.seq (.b9 [i 25 (mv t5) 0,
 i 4 (mv t25) 1] false)
 .ret)))))⟩
def L5:u0:=⟨4,40,[.cell 8 true 67,.tmp 9],
 .seq (.b9 [i 4 (.box 67 t0) 0,
 i 5 (.box 29 t1) 0,
 i 8 (.alloc z1) 0,
 i 9 (.mv (.c (I 0))) 0] false)
 (.seq (.b9 [i 14 (.b8 t4 0) 0,
 i 15 (.load true 67 F6) 1,
 i 16 (.b8 t5 28) 0,
 i 17 (.load false 1 K6) 4,
 i 18 (.call (.f V2) [K0,H5]) 15,
 i 13 (mv N1) 31,
 i 19 (.extract D9 0) 63,
 i 20 (.extract D9 1) 63,
 i 10 (.alloc z1) 0,
 iz (.store 67 x3 N7) 383,
 i 11 (mv P0) 1023] false)
 (.seq (.seq (.b9 [i 21 (mv A6) 0,
 i 22 (.bin .neq P1 (.c (I 0))) 1] false)
 (.cond U0
 (.seq (.b9 [i 23 (.b8 t4 0) 0,
 i 24 (.load true 67 t23) 1,
 i 25 (mv A6) 0,
 iz (.store 67 t8 t24) 3,
 i 9 (mv t25) 15] false)
 .ret)
 .skip))
 (.seq (.b9 [i 27 (.load true 67 x3) 0,
 i 28 (mv t3) 0,
 i 29 (.call (.f V3) [t27,t28]) 3,
 i 26 (mv t29) 7,
 i 30 (.extract t26 0) 15,
 i 31 (.extract t26 1) 15,
 i 12 (.alloc z1) 0,
 iz (.store 67 B2 t30) 95,
 i 11 (mv t31) 255] false)
 (.seq (.seq (.b9 [i 32 (mv A6) 0,
 i 33 (.bin .neq t32 (.c (I 0))) 1] false)
 (.cond t33
 (.seq (.b9 [i 34 (.b8 t4 0) 0,
 i 35 (.load true 67 t34) 1,
 i 36 (mv A6) 0,
 iz (.store 67 t8 t35) 3,
 i 9 (mv t36) 15] false)
 .ret)
 .skip))
 (.seq (.b9 [i 37 (mv t2) 0,
 i 38 (.b8 B2 2) 1,
 iz (.store 1 t38 t37) 3] false)
 (.seq (.b9 [i 39 (.load true 67 B2) 0,
 iz (.store 67 t8 t39) 1,
 i 9 (.mv (.c (I 0))) 3] false)
 .ret))))))⟩
def a4b:u0:=⟨3,57,[.tmp 6,.tmp 7],
 .seq (.b9 [i 4 (.box 7 t1) 0,
 i 5 (.box 7 t2) 0,
 i 6 (.mv (.c (.emp 7))) 0,
 i 7 (.mv (.c (I 0))) 4] false)
 (.seq (.b9 [i 13 (mv t0) 0,
 i 14 (.load true 7 t4) 0,
 i 15 (.V7 1 1 [I 0] [(0,.c (I 9))]) 0,
 i 16 (.call (.f x9) [D9,F6,K0]) 7,
 i 12 (mv K6) 15,
 i 17 (.extract B2 0) 31,
 i 18 (.extract B2 1) 31,
 i 8 (.alloc z4) 0,
 iz (.store 8 t8 H5) 191,
 i 9 (mv N1) 511] false)
 (.seq (.seq (.b9 [i 19 (mv t9) 0,
 i 20 (.bin .neq N7 (.c (I 0))) 1] false)
 (.cond P0
 (.seq (.b9 [i 21 (mv t9) 0,
 i 6 (.mv (.c (.emp 7))) 0,
 i 7 (mv P1) 3] false)
 .ret)
 .skip))
 (.seq (.b9 [i 22 (.load true 8 t8) 0,
 i 23 (.call (.f u4) [U0]) 1,
 i 10 (.alloc z2) 0,
 iz (.store 7 x3 t23) 7] false)
 (.seq (.b9 [i 24 (.b8 x3 3) 0,
 i 25 (.load false 1 t24) 1,
 i 26 (.load true 7 t5) 0,
 i 27 (.call (.f v8) [t25,t26]) 7,
 i 11 (mv t27) 15] false)
 (.seq (.seq (.b9 [i 28 (mv A6) 0,
 i 29 (.bin .lss t28 (.c (I 0))) 1,
 i 30 (mv t29) 3,
 ig 31 (mv A6) 30 false 7,
 ig 32 (.b8 x3 4) 30 false 7,
 ig 33 (.load false 1 t32) 30 false 23,
 ig 34 (.n9 t33) 30 false 55,
 ig 35 (.bin .geq t31 t34) 30 false 127,
 i 36 (.pick t30 (.c (.pv (.bool true))) t35) 255] false)
 (.cond t36
 (.seq (.b9 [i 37 (mv t0) 0,
 i 6 (mv t37) 1,
 i 7 (.mv (.c (I 0))) 3] false)
 .ret)
 .skip))
 (.seq (.b9 [i 38 (.b8 x3 3) 0,
 i 39 (.load false 1 t38) 1,
 i 40 (.call (.f s7) [t39]) 3,
 i 41 (mv A6) 0,
 i 42 (mv A6) 0,
 i 43 (.bin .add t42 (.c (I 1))) 16,
 i 44 (.call (.f C2) [t40,t41,t43]) 63,
 i 45 (.b8 x3 4) 0,
 i 46 (.load false 1 t45) 128,
 i 47 (.call (.f s7) [t46]) 511,
 i 48 (mv A6) 0,
 i 49 (mv A6) 0,
 i 50 (.bin .add t49 (.c (I 1))) 2048,
 i 51 (.call (.f C2) [t47,t48,t50]) 8191,
 i 52 (.b8 x3 3) 511,
 iz (.store 1 t52 t44) 32767,
 i 53 (.b8 x3 4) 65535,
 iz (.store 1 t53 t51) 131071] true)
 (.seq (.b9 [i 54 (.load true 8 t8) 0,
 i 55 (.load true 7 x3) 0,
 i 56 (.call (.f w6) [t54,t55]) 3,
 i 6 (mv t56) 7,
 i 7 (.mv (.c (I 0))) 15] false)
 .ret)))))))⟩
def b0x:u0:=⟨1,19,[.cell 2 true 7],
 .seq (.b9 [i 1 (.box 7 t0) 0,
 i 2 (.alloc z0) 0] false)
 (.seq (.b9 [i 3 (.b8 t1 1) 0,
 iz (.store 1 t3 (.c (.pv (.bool false)))) 1] false)
 (.seq (.seq (.b9 [i 4 (.b8 t1 0) 0,
 i 5 (.load false 1 t4) 1,
 i 6 (.bin .eql t5 (.c (I 4))) 3,
 i 7 (mv t6) 7,
 ig 8 (.load true 7 t1) 7 true 15,
 ig 9 (.call (.f X1) [t8]) 7 true 31,
 ig 10 (.field false 2 1 t9) 7 true 63,
 ig 11 (.bin .mul x3 (.c (I 65536))) 7 true 127,
 ig 12 (.b8 t1 2) 7 true 15,
 ig 13 (.load false 1 B2) 7 true 271,
 ig 14 (.bin .eql A6 D9) 7 true 1023,
 i 15 (.pick t7 F6 (.c (.pv (.bool false)))) 2047] true)
 (.cond K0
 (.seq (.b9 [i 16 (.load true 7 t1) 0,
 i 17 (.call (.f X1) [K6]) 1,
 iz (.store 7 t2 H5) 3] false)
 .ret)
 .skip))
 (.seq (.b9 [i 18 (.load true 7 t1) 0,
 iz (.store 7 t2 N1) 1] false)
 .ret)))⟩
def a7u:u0:=⟨2,19,[.tmp 4],
 .seq (.b9 [i 3 (.box 7 t1) 0,
 i 4 (.mv (.c (I 0))) 0] false)
 (.seq (.seq (.b9 [i 5 (.mv (.c (I 0))) 0] false)
 (.block 0
 (.loop [0,3,5]
 (.seq (.seq (.b9 [i 6 (mv t5) 0,
 i 7 (mv t0) 0,
 i 8 (.n9 t7) 2,
 i 9 (.bin .lss t6 t8) 7] false)
 (.cond t9
 .skip
 (.exit 0)))
 (.seq (.block 1
 (.seq (.b9 [i 12 (mv t0) 0,
 i 13 (mv t5) 0,
 i 14 (.m6 7 B2 D9) 3,
 i 15 (.load true 7 F6) 7,
 i 16 (.load true 7 t3) 0,
 i 17 (.eqs false [0,1,0,2,0,0,0] K0 K6) 31] true)
 (.cond H5
 (.seq (.b9 [i 18 (mv t5) 0,
 i 4 (mv N1) 1] false)
 .ret)
 .skip)))
 (.b9 [i 10 (mv t5) 0,
 i 11 (.bin .add x3 (.c (I 1))) 1,
 i 5 (mv A6) 3] false))))))
 (.seq (.b9 [i 4 (.mv (.c (I (-1)))) 0] false)
 .ret))⟩
def a8B:u0:=⟨3,16,[.tmp 6],
 .seq (.b9 [i 5 (.box 7 t2) 0,
 i 6 (.mv (.c (.emp 7))) 0] false)
 (.seq (.b9 [i 7 (.mv (.c (.emp 7))) 0] false)
 (.seq (.b9 [i 8 (mv t7) 0,
 i 9 (mv t0) 0,
 i 10 (.append 7 112 t8 t9) 3,
 i 7 (mv x3) 7] false)
 (.seq (.b9 [i 11 (mv t7) 0,
 i 12 (mv t1) 0,
 i 13 (.load true 7 t5) 0,
 i 14 (.m6 7 A6 B2) 7,
 iz (.store 7 F6 D9) 15] false)
 (.seq (.b9 [i 15 (mv t7) 0,
 i 6 (mv K0) 1] false)
 .ret))))⟩
def H2:u0:=⟨2,9,[.tmp 4],
 .seq (.b9 [i 4 (.mv (.c (.pv (.bool false)))) 0] false)
 (.seq (.b9 [i 5 (mv t0) 0,
 i 6 (mv t1) 0,
 i 7 (.call (.f D2) [t5,t6]) 3,
 i 8 (.bin .geq t7 (.c (I 0))) 7,
 i 4 (mv t8) 15] false)
 .ret)⟩
def a0y:u0:=⟨1,20,[.cell 2 true 7,.tmp 3],
 .seq (.b9 [i 1 (.box 7 t0) 0,
 i 2 (.alloc z0) 0,
 i 3 (.mv (.c (I 0))) 0] false)
 (.seq (.b9 [i 7 (.load true 7 t1) 0,
 i 8 (.call (.f D7) [t7]) 1,
 i 6 (mv t8) 3,
 i 9 (.extract t6 0) 7,
 i 10 (.extract t6 1) 7,
 i 4 (mv t9) 15,
 i 5 (mv x3) 63] false)
 (.seq (.seq (.b9 [i 11 (mv t5) 0,
 i 12 (.bin .neq A6 (.c (I 0))) 1] false)
 (.cond B2
 (.seq (.b9 [i 13 (.build z0 []) 0,
 i 14 (mv t5) 0,
 iz (.store 7 t2 D9) 1,
 i 3 (mv F6) 7] false)
 .ret)
 .skip))
 (.seq (.b9 [i 15 (mv t4) 0,
 i 16 (.bin .quo K0 (.c (I 65536))) 1,
 i 17 (.call (.f V0) [K6]) 3,
 i 18 (.extract H5 0) 7,
 i 19 (.extract H5 1) 7,
 iz (.store 7 t2 N1) 31,
 i 3 (mv N7) 63] false)
 .ret)))⟩
def J1:u0:=⟨2,15,[.cell 4 true 7,.tmp 5],
 .seq (.b9 [i 4 (.alloc z0) 0,
 i 5 (.mv (.c (I 0))) 0] false)
 (.seq (.b9 [i 7 (mv t1) 0,
 i 8 (mv t0) 0,
 i 9 (.call t7 [t8]) 3,
 i 6 (.alloc z0) 0,
 iz (.store 7 t6 t9) 15] false)
 (.seq (.seq (.b9 [i 10 (.load true 7 t6) 0,
 i 11 (.call (.f u5) [x3]) 1,
 i 12 (.bin .neq A6 (.c (I 0))) 3] false)
 (.cond B2
 (.seq (.b9 [i 13 (.build z0 []) 0,
 iz (.store 7 t4 D9) 1,
 i 5 (.mv (.c (I 2))) 3] false)
 .ret)
 .skip))
 (.seq (.b9 [i 14 (.load true 7 t6) 0,
 iz (.store 7 t4 F6) 1,
 i 5 (.mv (.c (I 0))) 3] false)
 .ret)))⟩
def Y0:u0:=⟨2,7,[.cell 3 true 7],
 .seq (.b9 [i 3 (.alloc z0) 0] false)
 (.seq (.b9 [i 4 (mv t0) 0,
 i 5 (.load false 1 t1) 0,
 i 6 (.build z0 [(0,1,.c (I 5)),(3,1,t4),(1,1,t5)]) 3,
 iz (.store 7 t3 t6) 7] false)
 .ret)⟩
def Q3:u0:=⟨2,9,[.tmp 4],
 .seq (.b9 [i 3 (.box 7 t1) 0,
 i 4 (.mv (.c (.pv (.bool false)))) 0] false)
 (.seq (.b9 [i 5 (mv t0) 0,
 i 6 (.load true 7 t3) 0,
 i 7 (.call (.f v8) [t5,t6]) 3,
 i 8 (.bin .geq t7 (.c (I 0))) 7,
 i 4 (mv t8) 15] false)
 .ret)⟩
def a0C:u0:=⟨1,5,[.cell 2 true 7],
 .seq (.b9 [i 2 (.alloc z2) 0] false)
 (.seq (.b9 [i 3 (mv t0) 0,
 i 4 (.build z2 [(0,1,.c (I 3)),(5,1,t3)]) 1,
 iz (.store 7 t2 t4) 3] false)
 .ret)⟩
def a2D:u0:=⟨1,5,[.cell 2 true 7],
 .seq (.b9 [i 2 (.alloc z0) 0] false)
 (.seq (.b9 [i 3 (mv t0) 0,
 i 4 (.build z0 [(0,1,.c (I 5)),(3,1,t3)]) 1,
 iz (.store 7 t2 t4) 3] false)
 .ret)⟩
def a0A:u0:=⟨0,15,[.cell 0 true 78],
 .seq (.b9 [i 0 (.alloc z6) 0] false)
 (.seq (.b9 [i 1 (.build z3 [(0,1,.c (.pv (.str [110,117,108,108,116,121,112,101])))]) 0,
 i 2 (.build z3 [(0,1,.c (.pv (.str [109,97,114,107,116,121,112,101])))]) 0,
 i 3 (.build z3 [(0,1,.c (.pv (.str [98,111,111,108,101,97,110,116,121,112,101]))),(2,1,.c (I 1))]) 0,
 i 4 (.build z3 [(0,1,.c (.pv (.str [105,110,116,101,103,101,114,116,121,112,101]))),(1,1,.c (I (-2147483648))),(2,1,.c (I 2147483647))]) 0,
 i 5 (.build z3 [(0,1,.c (.pv (.str [114,101,97,108,116,121,112,101]))),(1,1,.c (I (-2147483648))),(2,1,.c (I 2147483648))]) 0,
 i 6 (.build z3 [(0,1,.c (.pv (.str [110,97,109,101,116,121,112,101]))),(4,1,.c (I 100))]) 0,
 i 7 (.build z3 [(0,1,.c (.pv (.str [115,116,114,105,110,103,116,121,112,101]))),(5,1,.c (I 1))]) 0,
 i 8 (.build z3 [(0,1,.c (.pv (.str [97,114,114,97,121,116,121,112,101]))),(5,1,.c (I 2))]) 0,
 i 9 (.build z3 [(0,1,.c (.pv (.str [112,97,99,107,101,100,97,114,114,97,121,116,121,112,101]))),(5,1,.c (I 2))]) 0,
 i 10 (.build z3 [(0,1,.c (.pv (.str [100,105,99,116,116,121,112,101]))),(5,1,.c (I 3))]) 0,
 i 11 (.build z3 [(0,1,.c (.pv (.str [111,112,101,114,97,116,111,114,116,121,112,101]))),(3,1,.c (I 1)),(4,1,.c (I 100))]) 0,
 i 12 (.build z3 [(0,1,.c (.pv (.str [102,105,108,101,116,121,112,101]))),(5,1,.c (I 3))]) 0,
 i 13 (.build z3 [(0,1,.c (.pv (.str [115,97,118,101,116,121,112,101]))),(1,1,.c (I 1)),(2,1,.c (I 9223372036854775807))]) 0,
 i 14 (.build z6 [(0,6,t1),(6,6,t2),(12,6,t3),(18,6,t4),(24,6,t5),(30,6,t6),(36,6,t7),(42,6,t8),(48,6,t9),(54,6,x3),(60,6,A6),(66,6,B2),(72,6,D9)]) 8191,
 iz (.store 78 t0 F6) 16383] false)
 .ret)⟩
def J0:u0:=⟨2,17,[.tmp 4],
 .seq (.b9 [i 2 (.box 6 t0) 0,
 i 3 (.box 7 t1) 0,
 i 4 (.mv (.c (.pv (.bool false)))) 0] false)
 (.seq (.b9 [i 5 (.b8 t3 2) 0,
 i 6 (.load false 1 t5) 1,
 i 7 (.b8 t2 1) 0,
 i 8 (.load false 1 t7) 4,
 i 9 (.bin .geq t6 t8) 15,
 i 10 (mv t9) 31,
 ig 11 (.b8 t3 2) 10 true 63,
 ig 12 (.load false 1 A6) 10 true 127,
 ig 13 (.b8 t2 2) 10 true 63,
 ig 14 (.load false 1 D9) 10 true 319,
 ig 15 (.bin .leq B2 F6) 10 true 1023,
 i 16 (.pick x3 K0 (.c (.pv (.bool false)))) 2047,
 i 4 (mv K6) 4095] false)
 .ret)⟩
def L0:u0:=⟨2,19,[.tmp 4],
 .seq (.b9 [i 2 (.box 6 t0) 0,
 i 3 (.box 7 t1) 0,
 i 4 (.mv (.c (.pv (.bool false)))) 0] false)
 (.seq (.b9 [i 5 (.b8 t3 3) 0,
 i 6 (.load false 1 t5) 1,
 i 7 (.N0 t6) 3,
 i 8 (.b8 t2 3) 0,
 i 9 (.load false 1 t8) 8,
 i 10 (.bin .geq t7 t9) 31,
 i 11 (mv x3) 63,
 ig 12 (.b8 t3 3) 11 true 127,
 ig 13 (.load false 1 B2) 11 true 255,
 ig 14 (.N0 D9) 11 true 511,
 ig 15 (.b8 t2 4) 11 true 127,
 ig 16 (.load false 1 K0) 11 true 1151,
 ig 17 (.bin .leq F6 K6) 11 true 4095,
 i 18 (.pick A6 H5 (.c (.pv (.bool false)))) 8191,
 i 4 (mv N1) 16383] false)
 .ret)⟩
def E0:u0:=⟨2,57,[.tmp 4],
 .seq (.b9 [i 2 (.box 6 t0) 0,
 i 3 (.box 7 t1) 0,
 i 4 (.mv (.c (.pv (.bool false)))) 0] false)
 (.seq (.seq (.b9 [i 6 (.b8 t2 5) 0,
 i 7 (.load false 1 t6) 1,
 i 8 (.bin .eql t7 (.c (I 0))) 3] false)
 (.cond t8
 (.seq (.b9 [i 9 (.b8 t3 4) 0,
 i 10 (.load false 1 t9) 1,
 i 11 (.bin .eql x3 (.c (I 0))) 3,
 i 12 (mv A6) 7,
 ig 13 (.b8 t3 5) 12 true 15,
 ig 14 (.load false 1 D9) 12 true 31,
 ig 15 (.bin .eql F6 (.c (I 0))) 12 true 63,
 i 16 (.pick B2 K0 (.c (.pv (.bool false)))) 127,
 i 17 (mv K6) 255,
 ig 18 (.b8 t3 6) 17 true 511,
 ig 19 (.load false 1 N1) 17 true 1023,
 ig 20 (.bin .eql N7 (.c (I 0))) 17 true 2047,
 i 21 (.pick H5 P0 (.c (.pv (.bool false)))) 4095,
 i 4 (mv P1) 8191] false)
 .ret)
 .skip))
 (.seq (.b9 [i 22 (.load true 6 t2) 0,
 i 23 (.call (.f z9) [U0]) 1,
 i 5 (mv t23) 3] false)
 (.seq (.b9 [i 24 (.b8 t3 4) 0,
 i 25 (.load false 1 t24) 1,
 i 26 (.bin .geq t25 (.c (I 0))) 3,
 i 27 (mv t26) 7,
 ig 28 (.b8 t3 4) 27 true 15,
 ig 29 (.load false 1 t28) 27 true 31,
 ig 30 (.bin .leq t29 (.c (I 20000))) 27 true 63,
 i 31 (.pick t27 t30 (.c (.pv (.bool false)))) 127,
 i 32 (mv t31) 255,
 ig 33 (.b8 t3 5) 32 true 511,
 ig 34 (.load false 1 t33) 32 true 1023,
 ig 35 (.bin .geq t34 (.c (I 0))) 32 true 2047,
 i 36 (.pick t32 t35 (.c (.pv (.bool false)))) 4095,
 i 37 (mv t36) 8191,
 ig 38 (.b8 t3 6) 37 true 16383,
 ig 39 (.load false 1 t38) 37 true 32767,
 ig 40 (.bin .geq t39 (.c (I 0))) 37 true 65535,
 i 41 (.pick t37 t40 (.c (.pv (.bool false)))) 131071,
 i 42 (mv t41) 262143,
 ig 43 (.b8 t3 5) 42 true 524287,
 ig 44 (.load false 1 t43) 42 true 1048575,
 ig 45 (mv t5) 42 true 524287,
 ig 46 (.bin .leq t44 t45) 42 true 4194303,
 i 47 (.pick t42 t46 (.c (.pv (.bool false)))) 8388607,
 i 48 (mv t47) 16777215,
 ig 49 (.b8 t3 6) 48 true 33554431,
 ig 50 (.load false 1 t49) 48 true 67108863,
 ig 51 (mv t5) 48 true 33554431,
 ig 52 (.b8 t3 5) 48 true 33554431,
 ig 53 (.load false 1 t52) 48 true 301989887,
 ig 54 (.bin .sub t51 t53) 48 true 973078527,
 ig 55 (.bin .leq t50 t54) 48 true 2147483647,
 i 56 (.pick t48 t55 (.c (.pv (.bool false)))) 4294967295,
 i 4 (mv t56) 8589934591] false)
 .ret)))⟩
def R1:u0:=⟨1,22,[.cell 2 true 7,.tmp 3],
 .seq (.b9 [i 1 (.box 7 t0) 0,
 i 2 (.alloc z0) 0,
 i 3 (.mv (.c (I 0))) 0] false)
 (.seq (.seq (.b9 [i 5 (.load true 7 t1) 0,
 i 6 (.call (.f u5) [t5]) 1,
 i 4 (mv t6) 3] false)
 (.seq (.b9 [i 7 (mv t4) 0,
 i 8 (.bin .neq t7 (.c (I 0))) 1] false)
 (.cond t8
 (.seq (.b9 [i 9 (.build z0 []) 0,
 i 10 (mv t4) 0,
 iz (.store 7 t2 t9) 1,
 i 3 (mv x3) 7] false)
 .ret)
 .skip)))
 (.seq (.seq (.b9 [i 11 (.b8 t1 0) 0,
 i 12 (.load false 1 A6) 1,
 i 13 (.bin .neq B2 (.c (I 3))) 3,
 i 14 (mv D9) 7,
 ig 15 (.b8 t1 0) 14 true 15,
 ig 16 (.load false 1 K0) 14 true 31,
 ig 17 (.bin .neq K6 (.c (I 4))) 14 true 63,
 i 18 (.pick F6 H5 (.c (.pv (.bool false)))) 127] false)
 (.cond N1
 (.seq (.b9 [i 19 (.build z0 []) 0,
 iz (.store 7 t2 N7) 1,
 i 3 (.mv (.c (I 22))) 3] false)
 .ret)
 .skip))
 (.seq (.b9 [i 20 (.load true 7 t1) 0,
 i 21 (.build z0 [(0,7,P0)]) 1,
 iz (.store 7 t2 P1) 3,
 i 3 (.mv (.c (I 0))) 7] false)
 .ret)))⟩
def H0:u0:=⟨1,14,[.tmp 2],
 .seq (.b9 [i 1 (.box 7 t0) 0,
 i 2 (.mv (.c (I 0))) 0] false)
 (.seq (.seq (.b9 [i 3 (.b8 t1 0) 0,
 i 4 (.b8 t3 0) 1,
 i 5 (.load false 1 t4) 3,
 i 6 (.bin .eql t5 (.c (I 3))) 7] false)
 (.cond t6
 (.seq (.b9 [i 7 (.b8 t1 0) 0,
 i 8 (.b8 t7 2) 1,
 i 9 (.load false 1 t8) 3,
 i 10 (.bin .mul t9 (.c (I 65536))) 7,
 i 2 (mv x3) 15] false)
 .ret)
 .skip))
 (.seq (.b9 [i 11 (.b8 t1 0) 0,
 i 12 (.b8 A6 2) 1,
 i 13 (.load false 1 B2) 3,
 i 2 (mv D9) 7] false)
 .ret))⟩
def a0D:u0:=⟨1,6,[.tmp 2],
 .seq (.b9 [i 1 (.box 7 t0) 0,
 i 2 (.mv (.c (.pv (.bool false)))) 0] false)
 (.seq (.b9 [i 3 (.b8 t1 0) 0,
 i 4 (.load false 1 t3) 1,
 i 5 (.bin .eql t4 (.c (I 9))) 3,
 i 2 (mv t5) 7] false)
 .ret)⟩
def Z2:u0:=⟨1,11,[.tmp 2],
 .seq (.b9 [i 1 (.box 7 t0) 0,
 i 2 (.mv (.c (.pv (.bool false)))) 0] false)
 (.seq (.b9 [i 3 (.b8 t1 0) 0,
 i 4 (.load false 1 t3) 1,
 i 5 (.bin .eql t4 (.c (I 7))) 3,
 i 6 (mv t5) 7,
 ig 7 (.b8 t1 0) 6 false 15,
 ig 8 (.load false 1 t7) 6 false 31,
 ig 9 (.bin .eql t8 (.c (I 8))) 6 false 63,
 i 10 (.pick t6 (.c (.pv (.bool true))) t9) 127,
 i 2 (mv x3) 255] false)
 .ret)⟩
def a5j:u0:=⟨2,30,[.cell 4 true 67,.tmp 5],
 .seq (.b9 [i 2 (.box 67 t0) 0,
 i 4 (.alloc z1) 0,
 i 5 (.mv (.c (I 0))) 0] false)
 (.seq (.seq (.b9 [i 6 (mv t1) 0,
 i 7 (.bin .lss t6 (.c (I 0))) 1] false)
 (.cond t7
 (.seq (.b9 [i 8 (.load true 67 t2) 0,
 iz (.store 67 t4 t8) 1,
 i 5 (.mv (.c (I 2))) 3] false)
 .ret)
 .skip))
 (.seq (.seq (.b9 [i 9 (mv t1) 0,
 i 10 (.b8 t2 0) 0,
 i 11 (.load false 1 x3) 2,
 i 12 (.n9 A6) 6,
 i 13 (.bin .gtr t9 B2) 15] false)
 (.cond D9
 (.seq (.b9 [i 14 (.load true 67 t2) 0,
 iz (.store 67 t4 F6) 1,
 i 5 (.mv (.c (I 20))) 3] false)
 .ret)
 .skip))
 (.seq (.b9 [i 15 (.b8 t2 0) 0,
 i 16 (.load false 1 K0) 1,
 i 17 (.b8 t2 0) 0,
 i 18 (.load false 1 H5) 4,
 i 19 (.n9 N1) 12,
 i 20 (mv t1) 0,
 i 21 (.bin .sub N7 P0) 60,
 i 22 (.b8 t2 0) 0,
 i 23 (.load false 1 U0) 128,
 i 24 (.n9 t23) 384,
 i 25 (mv t1) 0,
 i 26 (.bin .sub t24 t25) 1920,
 i 27 (.slice 7 K6 none (some P1) (some t26)) 4095,
 i 28 (.b8 t2 0) 8191,
 iz (.store 1 t28 t27) 16383] false)
 (.seq (.b9 [i 29 (.load true 67 t2) 0,
 iz (.store 67 t4 t29) 1,
 i 5 (.mv (.c (I 0))) 3] false)
 .ret))))⟩
def a5k:u0:=⟨2,27,[.cell 4 true 67,.tmp 5],
 .seq (.b9 [i 2 (.box 67 t0) 0,
 i 4 (.alloc z1) 0,
 i 5 (.mv (.c (I 0))) 0] false)
 (.seq (.seq (.b9 [i 6 (.b8 t2 0) 0,
 i 7 (.load false 1 t6) 1,
 i 8 (.n9 t7) 3,
 i 9 (mv t1) 0,
 i 10 (.n9 t9) 8,
 i 11 (.bin .add t8 x3) 31,
 i 12 (.bin .gtr A6 (.c (I 100))) 63] false)
 (.cond B2
 (.seq (.b9 [i 13 (.load true 67 t2) 0,
 iz (.store 67 t4 D9) 1,
 i 5 (.mv (.c (I 21))) 3] false)
 .ret)
 .skip))
 (.seq (.b9 [i 14 (.b8 t2 0) 0,
 i 15 (.load false 1 F6) 1,
 i 16 (.b8 t2 0) 0,
 i 17 (.load false 1 K6) 4,
 i 18 (.n9 H5) 12,
 i 19 (.b8 t2 0) 0,
 i 20 (.load false 1 N7) 32,
 i 21 (.n9 P0) 96,
 i 22 (.slice 7 K0 none (some N1) (some P1)) 255,
 i 23 (mv t1) 0,
 i 24 (.append 7 64 U0 t23) 1023,
 i 25 (.b8 t2 0) 2047,
 iz (.store 1 t25 t24) 4095] false)
 (.seq (.b9 [i 26 (.load true 67 t2) 0,
 iz (.store 67 t4 t26) 1,
 i 5 (.mv (.c (I 0))) 3] false)
 .ret)))⟩
def L1:u0:=⟨3,33,[.tmp 6],
 .seq (.b9 [i 6 (.mv (.c (.emp 7))) 0] false)
 (.seq (.b9 [i 8 (mv t0) 0,
 i 9 (mv t1) 0,
 i 10 (mv t2) 0,
 i 11 (mv t0) 0,
 i 12 (.n9 A6) 8,
 i 13 (.slice 7 t8 (some t9) (some x3) (some B2)) 31] false)
 (.seq (.seq (.b9 [i 14 (mv t1) 0,
 i 15 (mv t2) 0,
 i 16 (.bin .eql F6 K0) 3] false)
 (.cond K6
 (.seq (.b9 [i 17 (mv t0) 0,
 i 6 (mv H5) 1] false)
 .ret)
 .skip))
 (.seq (.b9 [i 18 (mv t0) 0,
 i 19 (.n9 N1) 1,
 i 7 (mv N7) 3] false)
 (.seq (.b9 [i 20 (mv t0) 0,
 i 21 (mv t1) 0,
 i 22 (.slice 7 P0 none (some P1) none) 3,
 i 23 (mv t0) 0,
 i 24 (mv t2) 0,
 i 25 (.slice 7 t23 (some t24) none none) 24,
 i 26 (.append 7 64 U0 t25) 63,
 i 0 (mv t26) 127] true)
 (.seq (.b9 [i 27 (mv t0) 0,
 i 28 (mv t0) 0,
 i 29 (.n9 t28) 2,
 i 30 (mv t7) 0,
 i 31 (.slice 7 t27 (some t29) (some t30) none) 15,
 iz (.clear 7 [.int .i64 (0),.bool false,.int .i64 (0),.str [],.int .i64 (0),.int .i64 (0),.int .i64 (0)] t31) 31] false)
 (.seq (.b9 [i 32 (mv t0) 0,
 i 6 (mv t32) 1] false)
 .ret))))))⟩
def O0:u0:=⟨1,8,[.tmp 2],
 .seq (.b9 [i 2 (.mv (.c (.emp 7))) 0] false)
 (.seq (.seq (.b9 [i 3 (mv t0) 0,
 i 4 (.a8Z false t3) 1] false)
 (.cond t4
 (.seq (.b9 [i 2 (.mv (.c (.emp 7))) 0] false)
 .ret)
 .skip))
 (.seq (.b9 [i 5 (.V7 7 0 z0 []) 0,
 i 6 (mv t0) 0,
 i 7 (.append 7 64 t5 t6) 3,
 i 2 (mv t7) 7] false)
 .ret))⟩
def a7q:u0:=⟨1,16,[.cell 2 true 7],
 .seq (.b9 [i 1 (.box 7 t0) 0,
 i 2 (.alloc z0) 0] false)
 (.seq (.b9 [i 4 (.load true 7 t1) 0,
 i 5 (.call (.f a1K) [t4]) 1,
 i 3 (mv t5) 3] false)
 (.seq (.seq (.b9 [i 6 (mv t3) 0,
 i 7 (.bin .lss t6 (.c (I 0))) 1] false)
 (.cond t7
 (.seq (.b9 [i 8 (mv t3) 0,
 i 9 (.neg t8) 1,
 i 10 (.bin .quo t9 (.c (I 65536))) 3,
 i 11 (.neg x3) 7,
 i 12 (.call (.f a1Y) [A6]) 15,
 iz (.store 7 t2 B2) 31] false)
 .ret)
 .skip))
 (.seq (.b9 [i 13 (mv t3) 0,
 i 14 (.bin .quo D9 (.c (I 65536))) 1,
 i 15 (.call (.f a1Y) [F6]) 3,
 iz (.store 7 t2 K0) 7] false)
 .ret)))⟩
def O2:u0:=⟨2,19,[.tmp 4],
 .seq (.b9 [i 4 (.mv (.c (I 0))) 0] false)
 (.seq (.seq (.b9 [i 6 (mv t0) 0,
 i 7 (.n9 t6) 1,
 i 8 (.mv (.c (I 0))) 0] false)
 (.block 0
 (.loop [0,1,7,8]
 (.seq (.b9 [i 9 (.bin .lss t8 t7) 0] false)
 (.seq (.cond t9
 .skip
 (.exit 0))
 (.seq (.block 1
 (.seq (.b9 [i 10 (mv t8) 0,
 i 5 (mv x3) 1] false)
 (.seq (.b9 [i 11 (mv t1) 0,
 i 12 (mv t0) 0,
 i 13 (mv t5) 0,
 i 14 (.m6 1 B2 D9) 6,
 i 15 (.load false 1 F6) 14,
 i 16 (.bin .eql A6 K0) 31] false)
 (.cond K6
 (.seq (.b9 [i 17 (mv t5) 0,
 i 4 (mv H5) 1] false)
 .ret)
 .skip))))
 (.b9 [i 18 (.bin .add t8 (.c (I 1))) 0,
 i 8 (mv N1) 1] false)))))))
 (.seq (.b9 [i 4 (.mv (.c (I (-1)))) 0] false)
 .ret))⟩
def a2B:u0:=⟨1,8,[.cell 2 true 7,.tmp 3],
 .seq (.b9 [i 2 (.alloc z0) 0,
 i 3 (.mv (.c (I 0))) 0] false)
 (.seq (.b9 [i 4 (mv t0) 0,
 i 5 (.call (.f E3) [t4,.f G3]) 1,
 i 6 (.extract t5 0) 3,
 i 7 (.extract t5 1) 3,
 iz (.store 7 t2 t6) 15,
 i 3 (mv t7) 31] false)
 .ret)⟩
def G9:u0:=⟨1,7,[.tmp 2],
 .seq (.b9 [i 1 (.box 6 t0) 0,
 i 2 (.mv (.c (I 0))) 0] false)
 (.seq (.b9 [i 3 (.build [I 0,I 0,I 0,I 0] [(0,1,.c (I 0)),(1,1,.c (I 1000)),(2,1,.c (I 1000)),(3,1,.c (I 0))]) 0,
 i 4 (.b8 t1 5) 0,
 i 5 (.load false 1 t4) 2,
 i 6 (.index false 4 1 t3 t5) 7,
 i 2 (mv t6) 15] false)
 .ret)⟩
def b0w:u0:=⟨1,5,[.cell 2 true 7],
 .seq (.b9 [i 2 (.alloc z0) 0] false)
 (.seq (.b9 [i 3 (mv t0) 0,
 i 4 (.build z0 [(0,1,.c (I 3)),(2,1,t3)]) 1,
 iz (.store 7 t2 t4) 3] false)
 .ret)⟩
def R0:u0:=⟨2,15,[.cell 4 true 7,.tmp 5],
 .seq (.b9 [i 4 (.alloc z0) 0,
 i 5 (.mv (.c (I 0))) 0] false)
 (.seq (.b9 [i 7 (mv t1) 0,
 i 8 (mv t0) 0,
 i 9 (.call t7 [t8]) 3,
 i 6 (.alloc z0) 0,
 iz (.store 7 t6 t9) 15] false)
 (.seq (.seq (.b9 [i 10 (.load true 7 t6) 0,
 i 11 (.call (.f u5) [x3]) 1,
 i 12 (.bin .neq A6 (.c (I 0))) 3] false)
 (.cond B2
 (.seq (.b9 [i 13 (.build z0 []) 0,
 iz (.store 7 t4 D9) 1,
 i 5 (.mv (.c (I 2))) 3] false)
 .ret)
 .skip))
 (.seq (.b9 [i 14 (.load true 7 t6) 0,
 iz (.store 7 t4 F6) 1,
 i 5 (.mv (.c (I 0))) 3] false)
 .ret)))⟩
def a0x:u0:=⟨1,5,[.cell 2 true 7],
 .seq (.b9 [i 2 (.alloc z0) 0] false)
 (.seq (.b9 [i 3 (mv t0) 0,
 i 4 (.build z0 [(0,1,.c (I 3)),(2,1,t3)]) 1,
 iz (.store 7 t2 t4) 3] false)
 .ret)⟩
end Go.Ab.Td
namespace Go.Ab.Td
open Go.Ab
def c9j:TF:=(.node (.node (.node (.node (.node (.leaf a5y a7O) (.leaf p9 a4i)) (.node (.leaf W8 a4c) (.leaf J3 a2y))) (.node (.node (.node (.leaf n_law18_ResourceStays c_law18_ResourceStays) (.leaf G4 Z1)) .nil) (.node (.leaf a2L a5d) (.leaf S7 a5c)))) (.node (.node (.node (.leaf U5 a5e) (.leaf M5 a1n)) (.leaf a2K a5b)) (.node (.node (.node (.leaf W9 a4d) (.leaf C4 a3F)) (.leaf X4 a7v)) (.node (.leaf P7 a4g) (.leaf D4 a2z))))) (.node (.node (.node (.node (.leaf a0N a4Z) (.leaf x2 a0B)) (.node (.leaf a2J a5a) (.leaf N6 a6e))) (.node (.leaf n5 a4B) (.node (.leaf S8 a0u) (.leaf J4 a3E)))) (.node (.node (.leaf o5 b1N) (.node (.node (.leaf L2 V9) (.leaf a1K a7r)) (.leaf Y4 a2h))) (.node (.node (.leaf U9 a1m) (.leaf a0O a3d)) (.node (.leaf M1 a6f) (.leaf F4 a5f))))))
def c9k:TF:=(.node (.node (.node (.node (.leaf n6 H8) (.node (.leaf a1Z b0y) (.leaf a1J a4f))) (.node (.node (.leaf y1 a1o) (.leaf P2 a2i)) (.node (.leaf X3 a7t) (.leaf A8 N9)))) (.node (.node (.node (.leaf q9 I1) (.leaf r9 a5g)) (.node (.leaf a0P a8A) (.leaf a6W a9K))) (.node (.node (.leaf P9 a4h) (.leaf a3o a7P)) (.node (.leaf E9 X9) (.leaf I7 Y1))))) (.node (.node (.node (.node (.leaf q8 H9) (.leaf K5 a1F)) (.node (.leaf a2N a8D) (.leaf X0 a4e))) (.node (.node (.leaf V1 a5h) (.leaf G5 Z3)) (.node (.leaf y0 a5L) (.leaf g9 K2)))) (.node (.node (.node (.leaf r6 I2) (.leaf U7 a9J)) (.node (.leaf a1M a7w) (.leaf F1 V8))) (.node (.node (.leaf a5z b1M) (.leaf U8 a2A)) (.node (.leaf S9 a3c) (.leaf m9 R2))))))
def c9l:TF:=(.node (.node (.node (.node (.node (.leaf u5 a0w) (.leaf x9 a1E)) (.node (.leaf u7 L6) (.leaf C1 K9))) (.node (.leaf w6 U2) (.node (.leaf o9 L5) (.leaf O6 Z0)))) (.node (.node (.node (.leaf D7 a0z) (.leaf U6 a1l)) (.node (.leaf a0j a6i) (.leaf R4 a0v))) (.node (.node (.leaf C9 F7) (.leaf P8 a1G)) (.node (.node (.leaf T1 a6g) (.leaf a3P b0x)) (.leaf E4 y8))))) (.node (.node (.node (.node (.leaf K4 a1D) (.leaf u4 U1)) (.node (.leaf J8 a5i) (.leaf a1X a6d))) (.node (.node (.leaf a1L a7s) (.leaf O7 a2C)) (.node (.leaf P6 a4b) (.leaf B3 W6)))) (.node (.node (.leaf J5 R9) (.node (.leaf M6 a1p) (.leaf J6 S0))) (.node (.node (.leaf o8 D6) (.leaf v8 O1)) (.node (.leaf a2M a8z) (.leaf J7 a8C))))))
def c9m:TF:=(.node (.node (.node (.node (.node (.leaf y9 a0D) (.leaf O8 a8B)) (.node (.leaf V0 a2B) (.leaf M4 a0A))) (.node (.node (.leaf C2 L1) (.leaf F0 Y0)) (.node (.leaf G3 a0x) (.leaf B7 R1)))) (.node (.node (.node (.leaf V2 a5j) (.leaf M3 a0y)) (.node (.leaf a1Y b0w) (.leaf y5 L0))) (.node (.node (.leaf X1 a7q) (.leaf s0 a0C)) .nil))) (.node (.node (.node (.node (.leaf D1 Z2) (.leaf A0 H2)) (.node (.leaf z9 G9) (.leaf x6 J0))) (.node (.node (.leaf s7 O0) (.leaf H3 Q3)) (.leaf w9 H0))) (.node (.node (.node (.leaf V3 a5k) (.leaf B0 J1)) (.node (.leaf E3 R0) (.leaf u6 E0))) (.node (.node (.leaf D2 O2) (.leaf A5 a2D)) (.leaf Q0 a7u)))))
structure Laid (P:Program):Prop where
 mixed:P.follows .mixedOrders=true
 t0:c9j.all (f0 P)=true
 t1:c9k.all (f0 P)=true
 t2:c9l.all (f0 P)=true
 t3:c9m.all (f0 P)=true
variable {P:Program} (C:Laid P)
include C
theorem k_law18_ResourceStays:f0 P n_law18_ResourceStays c_law18_ResourceStays=true:=TF.e8 C.t0 _ _ rfl
theorem b3i:f0 P W9 a4d=true:=TF.e8 C.t0 _ _ rfl
theorem b4V:f0 P a2J a5a=true:=TF.e8 C.t0 _ _ rfl
theorem a7e:f0 P L2 V9=true:=TF.e8 C.t0 _ _ rfl
theorem b4X:f0 P a2L a5d=true:=TF.e8 C.t0 _ _ rfl
theorem b3l:f0 P P7 a4g=true:=TF.e8 C.t0 _ _ rfl
theorem b2l:f0 P M1 a6f=true:=TF.e8 C.t0 _ _ rfl
theorem P5:f0 P p9 a4i=true:=TF.e8 C.t0 _ _ rfl
theorem a3M:f0 P x2 a0B=true:=TF.e8 C.t0 _ _ rfl
theorem a4J:f0 P M5 a1n=true:=TF.e8 C.t0 _ _ rfl
theorem w7:f0 P o5 b1N=true:=TF.e8 C.t0 _ _ rfl
theorem b3q:f0 P X4 a7v=true:=TF.e8 C.t0 _ _ rfl
theorem b2k:f0 P a0O a3d=true:=TF.e8 C.t0 _ _ rfl
theorem a5t:f0 P J3 a2y=true:=TF.e8 C.t0 _ _ rfl
theorem b6h:f0 P N6 a6e=true:=TF.e8 C.t0 _ _ rfl
theorem b4W:f0 P a2K a5b=true:=TF.e8 C.t0 _ _ rfl
theorem b0U:f0 P Y4 a2h=true:=TF.e8 C.t0 _ _ rfl
theorem a7Y:f0 P S7 a5c=true:=TF.e8 C.t0 _ _ rfl
theorem a3L:f0 P J4 a3E=true:=TF.e8 C.t0 _ _ rfl
theorem a0K:f0 P D4 a2z=true:=TF.e8 C.t0 _ _ rfl
theorem b4Z:f0 P F4 a5f=true:=TF.e8 C.t0 _ _ rfl
theorem b7u:f0 P a5y a7O=true:=TF.e8 C.t0 _ _ rfl
theorem b4U:f0 P a0N a4Z=true:=TF.e8 C.t0 _ _ rfl
theorem b4Y:f0 P U5 a5e=true:=TF.e8 C.t0 _ _ rfl
theorem a8a:f0 P G4 Z1=true:=TF.e8 C.t0 _ _ rfl
theorem a9W:f0 P n5 a4B=true:=TF.e8 C.t0 _ _ rfl
theorem a6s:f0 P C4 a3F=true:=TF.e8 C.t0 _ _ rfl
theorem a9V:f0 P U9 a1m=true:=TF.e8 C.t0 _ _ rfl
theorem b3h:f0 P W8 a4c=true:=TF.e8 C.t0 _ _ rfl
theorem b3n:f0 P a1K a7r=true:=TF.e8 C.t0 _ _ rfl
theorem a6t:f0 P S8 a0u=true:=TF.e8 C.t0 _ _ rfl
theorem a2k:f0 P E9 X9=true:=TF.e8 C.t1 _ _ rfl
theorem b2j:f0 P S9 a3c=true:=TF.e8 C.t1 _ _ rfl
theorem a7z:f0 P K5 a1F=true:=TF.e8 C.t1 _ _ rfl
theorem a9b:f0 P r9 a5g=true:=TF.e8 C.t1 _ _ rfl
theorem b9z:f0 P U7 a9J=true:=TF.e8 C.t1 _ _ rfl
theorem b0W:f0 P P2 a2i=true:=TF.e8 C.t1 _ _ rfl
theorem a8b:f0 P G5 Z3=true:=TF.e8 C.t1 _ _ rfl
theorem b7v:f0 P a3o a7P=true:=TF.e8 C.t1 _ _ rfl
theorem a9c:f0 P U8 a2A=true:=TF.e8 C.t1 _ _ rfl
theorem b3k:f0 P a1J a4f=true:=TF.e8 C.t1 _ _ rfl
theorem b3j:f0 P X0 a4e=true:=TF.e8 C.t1 _ _ rfl
theorem b9A:f0 P a6W a9K=true:=TF.e8 C.t1 _ _ rfl
theorem a7d:f0 P F1 V8=true:=TF.e8 C.t1 _ _ rfl
theorem Z9:f0 P A8 N9=true:=TF.e8 C.t1 _ _ rfl
theorem A1:f0 P g9 K2=true:=TF.e8 C.t1 _ _ rfl
theorem a2m:f0 P I7 Y1=true:=TF.e8 C.t1 _ _ rfl
theorem E2:f0 P m9 R2=true:=TF.e8 C.t1 _ _ rfl
theorem C6:f0 P n6 H8=true:=TF.e8 C.t1 _ _ rfl
theorem I4:f0 P q8 H9=true:=TF.e8 C.t1 _ _ rfl
theorem I5:f0 P q9 I1=true:=TF.e8 C.t1 _ _ rfl
theorem I6:f0 P r6 I2=true:=TF.e8 C.t1 _ _ rfl
theorem a4K:f0 P y1 a1o=true:=TF.e8 C.t1 _ _ rfl
theorem a9d:f0 P V1 a5h=true:=TF.e8 C.t1 _ _ rfl
theorem a7A:f0 P P9 a4h=true:=TF.e8 C.t1 _ _ rfl
theorem b7w:f0 P a5z b1M=true:=TF.e8 C.t1 _ _ rfl
theorem b6k:f0 P a1Z b0y=true:=TF.e8 C.t1 _ _ rfl
theorem b5e:f0 P a2N a8D=true:=TF.e8 C.t1 _ _ rfl
theorem b5b:f0 P a0P a8A=true:=TF.e8 C.t1 _ _ rfl
theorem b3r:f0 P a1M a7w=true:=TF.e8 C.t1 _ _ rfl
theorem a7B:f0 P X3 a7t=true:=TF.e8 C.t1 _ _ rfl
theorem b0V:f0 P y0 a5L=true:=TF.e8 C.t1 _ _ rfl
theorem a6x:f0 P T1 a6g=true:=TF.e8 C.t2 _ _ rfl
theorem b5a:f0 P a2M a8z=true:=TF.e8 C.t2 _ _ rfl
theorem a1I:f0 P x9 a1E=true:=TF.e8 C.t2 _ _ rfl
theorem a1w:f0 P u4 U1=true:=TF.e8 C.t2 _ _ rfl
theorem a9U:f0 P U6 a1l=true:=TF.e8 C.t2 _ _ rfl
theorem a6u:f0 P J5 R9=true:=TF.e8 C.t2 _ _ rfl
theorem a1x:f0 P w6 U2=true:=TF.e8 C.t2 _ _ rfl
theorem a5v:f0 P O7 a2C=true:=TF.e8 C.t2 _ _ rfl
theorem a4n:f0 P P8 a1G=true:=TF.e8 C.t2 _ _ rfl
theorem a0b:f0 P v8 O1=true:=TF.e8 C.t2 _ _ rfl
theorem W1:f0 P C1 K9=true:=TF.e8 C.t2 _ _ rfl
theorem b6g:f0 P a1X a6d=true:=TF.e8 C.t2 _ _ rfl
theorem a9a:f0 P R4 a0v=true:=TF.e8 C.t2 _ _ rfl
theorem a6v:f0 P J6 S0=true:=TF.e8 C.t2 _ _ rfl
theorem a7Z:f0 P O6 Z0=true:=TF.e8 C.t2 _ _ rfl
theorem a4o:f0 P B3 W6=true:=TF.e8 C.t2 _ _ rfl
theorem a9e:f0 P E4 y8=true:=TF.e8 C.t2 _ _ rfl
theorem b5d:f0 P J7 a8C=true:=TF.e8 C.t2 _ _ rfl
theorem a3g:f0 P u5 a0w=true:=TF.e8 C.t2 _ _ rfl
theorem a4m:f0 P K4 a1D=true:=TF.e8 C.t2 _ _ rfl
theorem a3j:f0 P D7 a0z=true:=TF.e8 C.t2 _ _ rfl
theorem b3o:f0 P a1L a7s=true:=TF.e8 C.t2 _ _ rfl
theorem a4I:f0 P C9 F7=true:=TF.e8 C.t2 _ _ rfl
theorem N4:f0 P o8 D6=true:=TF.e8 C.t2 _ _ rfl
theorem a0h:f0 P u7 L6=true:=TF.e8 C.t2 _ _ rfl
theorem a9f:f0 P J8 a5i=true:=TF.e8 C.t2 _ _ rfl
theorem a6y:f0 P a0j a6i=true:=TF.e8 C.t2 _ _ rfl
theorem a4L:f0 P M6 a1p=true:=TF.e8 C.t2 _ _ rfl
theorem a0g:f0 P o9 L5=true:=TF.e8 C.t2 _ _ rfl
theorem a4l:f0 P P6 a4b=true:=TF.e8 C.t2 _ _ rfl
theorem b6j:f0 P a3P b0x=true:=TF.e8 C.t2 _ _ rfl
theorem b3p:f0 P Q0 a7u=true:=TF.e8 C.t3 _ _ rfl
theorem b5c:f0 P O8 a8B=true:=TF.e8 C.t3 _ _ rfl
theorem Q7:f0 P A0 H2=true:=TF.e8 C.t3 _ _ rfl
theorem a3i:f0 P M3 a0y=true:=TF.e8 C.t3 _ _ rfl
theorem S6:f0 P B0 J1=true:=TF.e8 C.t3 _ _ rfl
theorem a2l:f0 P F0 Y0=true:=TF.e8 C.t3 _ _ rfl
theorem a5T:f0 P H3 Q3=true:=TF.e8 C.t3 _ _ rfl
theorem a2I:f0 P s0 a0C=true:=TF.e8 C.t3 _ _ rfl
theorem a5w:f0 P A5 a2D=true:=TF.e8 C.t3 _ _ rfl
theorem a3k:f0 P M4 a0A=true:=TF.e8 C.t3 _ _ rfl
theorem S5:f0 P x6 J0=true:=TF.e8 C.t3 _ _ rfl
theorem W2:f0 P y5 L0=true:=TF.e8 C.t3 _ _ rfl
theorem L9:f0 P u6 E0=true:=TF.e8 C.t3 _ _ rfl
theorem a0M:f0 P B7 R1=true:=TF.e8 C.t3 _ _ rfl
theorem Q6:f0 P w9 H0=true:=TF.e8 C.t3 _ _ rfl
theorem a3N:f0 P y9 a0D=true:=TF.e8 C.t3 _ _ rfl
theorem a3l:f0 P D1 Z2=true:=TF.e8 C.t3 _ _ rfl
theorem a9g:f0 P V2 a5j=true:=TF.e8 C.t3 _ _ rfl
theorem a9h:f0 P V3 a5k=true:=TF.e8 C.t3 _ _ rfl
theorem a2u:f0 P C2 L1=true:=TF.e8 C.t3 _ _ rfl
theorem a0a:f0 P s7 O0=true:=TF.e8 C.t3 _ _ rfl
theorem b3m:f0 P X1 a7q=true:=TF.e8 C.t3 _ _ rfl
theorem a0c:f0 P D2 O2=true:=TF.e8 C.t3 _ _ rfl
theorem a5u:f0 P V0 a2B=true:=TF.e8 C.t3 _ _ rfl
theorem Q5:f0 P z9 G9=true:=TF.e8 C.t3 _ _ rfl
theorem b6i:f0 P a1Y b0w=true:=TF.e8 C.t3 _ _ rfl
theorem a0L:f0 P E3 R0=true:=TF.e8 C.t3 _ _ rfl
theorem a3h:f0 P G3 a0x=true:=TF.e8 C.t3 _ _ rfl
end Go.Ab.Td
