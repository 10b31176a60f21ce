/- A part of the proof: the texts TdNm, TdCd0, TdTb. Under: nothing. -/
import Derived.Test.YtngmifmcohmfmaaDoorG05
set_option linter.unusedVariables false
namespace Go.Ab.Td
abbrev C2:Nat:=14
abbrev i7:Nat:=22
abbrev B1:Nat:=25
abbrev V4:Nat:=28
abbrev A8:Nat:=32
abbrev N3:Nat:=33
abbrev Q9:Nat:=35
abbrev B5:Nat:=38
abbrev a5f:Nat:=40
abbrev S7:Nat:=42
abbrev F7:Nat:=43
abbrev a2i:Nat:=44
abbrev K2:Nat:=46
abbrev a2k:Nat:=47
abbrev O2:Nat:=49
abbrev k7:Nat:=51
abbrev L3:Nat:=52
abbrev E1:Nat:=57
abbrev W6:Nat:=58
abbrev I6:Nat:=60
abbrev a2j:Nat:=62
abbrev A9:Nat:=63
abbrev I7:Nat:=64
abbrev C9:Nat:=65
abbrev O1:Nat:=67
abbrev O4:Nat:=71
abbrev x7:Nat:=72
abbrev s7:Nat:=73
abbrev B3:Nat:=76
abbrev x6:Nat:=77
abbrev x2:Nat:=78
abbrev n7:Nat:=79
abbrev p7:Nat:=80
abbrev J6:Nat:=81
abbrev F4:Nat:=82
abbrev s0:Nat:=91
abbrev y1:Nat:=95
abbrev a0t:Nat:=97
abbrev M3:Nat:=98
abbrev F1:Nat:=99
abbrev I9:Nat:=101
abbrev D3:Nat:=102
abbrev F5:Nat:=103
abbrev u4:Nat:=104
abbrev E6:Nat:=105
abbrev J4:Nat:=106
abbrev A6:Nat:=109
abbrev S5:Nat:=110
abbrev V3:Nat:=111
abbrev Q8:Nat:=115
abbrev L0:Nat:=116
abbrev J5:Nat:=118
abbrev S4:Nat:=119
abbrev V5:Nat:=120
abbrev a6y:Nat:=121
abbrev i6:Nat:=122
abbrev H3:Nat:=123
abbrev n4:Nat:=124
abbrev l0:Nat:=125
abbrev v5:Nat:=126
abbrev r7:Nat:=127
abbrev v7:Nat:=128
abbrev r9:Nat:=136
abbrev A1:Nat:=137
abbrev x9:Nat:=138
abbrev S1:Nat:=139
abbrev u2:Nat:=140
abbrev I8:Nat:=141
abbrev w7:Nat:=142
abbrev B2:Nat:=143
abbrev N4:Nat:=144
abbrev O3:Nat:=145
abbrev v8:Nat:=146
abbrev B4:Nat:=147
abbrev J0:Nat:=149
abbrev q8:Nat:=150
abbrev u6:Nat:=151
abbrev S9:Nat:=155
abbrev Y9:Nat:=156
abbrev S8:Nat:=158
abbrev C3:Nat:=163
abbrev L2:Nat:=164
abbrev x5:Nat:=165
abbrev y4:Nat:=166
abbrev u5:Nat:=167
abbrev D4:Nat:=170
abbrev y0:Nat:=172
abbrev L4:Nat:=173
abbrev q9:Nat:=174
abbrev z7:Nat:=176
abbrev L1:Nat:=177
abbrev A4:Nat:=178
abbrev E7:Nat:=179
abbrev z6:Nat:=182
abbrev B0:Nat:=183
abbrev x1:Nat:=184
abbrev y6:Nat:=185
abbrev C5:Nat:=186
abbrev C6:Nat:=188
abbrev S6:Nat:=189
abbrev E0:Nat:=191
abbrev F6:Nat:=192
open Go Go.Ab
abbrev I (n:Int):AV:=.pv (.int .i64 n)
abbrev z0:List AV:=[I 0,.pv (.bool false),I 0,.pv (.str []),I 0,I 0,I 0]
abbrev z1:List AV:=[.emp 7,.emp 7,.emp 7,.emp 3,I 0,I 0,I 0,I 0,I 0,I 0,I 0,.emp 7,I 0,I 0,I 0,I 0,I 0,I 0,I 0,I 0,I 0,I 0,I 0,I 0,I 0,I 0,I 0,I 0,I 0,I 0,I 0,I 0,.pv (.bool false),.pv (.bool false),.emp 47,I 0,I 0,I 0,I 0,I 0,I 0,I 0,I 0,.emp 1,I 0,I 0,.emp 2,I 0,.pv (.bool false),I 0,.pv (.str []),I 0,I 0,I 0,I 0,I 0,I 0,I 0,I 0,I 0,I 0,I 0,.emp 57,.emp 47,.emp 3,.pv (.str []),I 0]
abbrev z2:List AV:=[I 0,.pv (.str []),.emp 7,.emp 7,.emp 7,I 0,I 0]
abbrev z3:List AV:=[I 0,.pv (.bool false),I 0,.pv (.str []),I 0,I 0,I 0,I 0,.pv (.bool false),I 0,.pv (.str []),I 0,I 0,I 0,I 0,.pv (.bool false),I 0,.pv (.str []),I 0,I 0,I 0,I 0,.pv (.bool false),I 0,.pv (.str []),I 0,I 0,I 0,I 0]
abbrev z4:List AV:=[I 0,I 0,I 0,I 0,I 0,I 0,.emp 7,I 0,I 0,I 0,I 0,I 0,I 0,I 0,I 0,I 0,I 0,I 0,I 0,I 0,I 0,I 0,I 0,I 0,I 0,I 0,I 0,.pv (.bool false),.pv (.bool false),.emp 47,I 0,I 0,I 0,I 0,I 0,I 0,I 0,I 0,.emp 1,I 0,I 0,.emp 2,I 0,.pv (.bool false),I 0,.pv (.str []),I 0,I 0,I 0,I 0,I 0,I 0,I 0,I 0,I 0,I 0,I 0]
abbrev z5:List AV:=[.pv (.str []),I 0,I 0,I 0,I 0,I 0,.pv (.str []),I 0,I 0,I 0,I 0,I 0,.pv (.str []),I 0,I 0,I 0,I 0,I 0,.pv (.str []),I 0,I 0,I 0,I 0,I 0,.pv (.str []),I 0,I 0,I 0,I 0,I 0,.pv (.str []),I 0,I 0,I 0,I 0,I 0,.pv (.str []),I 0,I 0,I 0,I 0,I 0,.pv (.str []),I 0,I 0,I 0,I 0,I 0,.pv (.str []),I 0,I 0,I 0,I 0,I 0,.pv (.str []),I 0,I 0,I 0,I 0,I 0,.pv (.str []),I 0,I 0,I 0,I 0,I 0,.pv (.str []),I 0,I 0,I 0,I 0,I 0,.pv (.str []),I 0,I 0,I 0,I 0,I 0]
abbrev i (d:Nat) (o:ROp) (p:Nat):p8:=⟨some d,o,none,p⟩
abbrev ig (d:Nat) (o:ROp) (g:Nat) (b:Bool) (p:Nat):p8:=⟨some d,o,some (g,b),p⟩
abbrev iz (o:ROp) (p:Nat):p8:=⟨none,o,none,p⟩
abbrev mv (a:RA):ROp:=.mv a
abbrev t0:RA:=.t 0
abbrev t1:RA:=.t 1
abbrev t2:RA:=.t 2
abbrev t3:RA:=.t 3
abbrev t4:RA:=.t 4
abbrev t5:RA:=.t 5
abbrev t6:RA:=.t 6
abbrev t7:RA:=.t 7
abbrev t8:RA:=.t 8
abbrev t9:RA:=.t 9
abbrev A7:RA:=.t 10
abbrev C1:RA:=.t 11
abbrev E3:RA:=.t 12
abbrev H6:RA:=.t 13
abbrev L7:RA:=.t 14
abbrev P9:RA:=.t 15
abbrev M4:RA:=.t 16
abbrev M5:RA:=.t 17
abbrev P4:RA:=.t 18
abbrev R5:RA:=.t 19
abbrev U9:RA:=.t 20
abbrev T8:RA:=.t 21
abbrev Z4:RA:=.t 22
abbrev t23:RA:=.t 23
abbrev t24:RA:=.t 24
abbrev t25:RA:=.t 25
abbrev t26:RA:=.t 26
abbrev t27:RA:=.t 27
abbrev t28:RA:=.t 28
abbrev t29:RA:=.t 29
abbrev t30:RA:=.t 30
abbrev t31:RA:=.t 31
abbrev t32:RA:=.t 32
abbrev t33:RA:=.t 33
abbrev t34:RA:=.t 34
abbrev t35:RA:=.t 35
abbrev t36:RA:=.t 36
abbrev t37:RA:=.t 37
abbrev t38:RA:=.t 38
abbrev t39:RA:=.t 39
abbrev t40:RA:=.t 40
abbrev t41:RA:=.t 41
abbrev t42:RA:=.t 42
abbrev t43:RA:=.t 43
abbrev t44:RA:=.t 44
abbrev t45:RA:=.t 45
abbrev t46:RA:=.t 46
abbrev t47:RA:=.t 47
abbrev t48:RA:=.t 48
abbrev t49:RA:=.t 49
abbrev t50:RA:=.t 50
abbrev t51:RA:=.t 51
abbrev t52:RA:=.t 52
abbrev t53:RA:=.t 53
abbrev t54:RA:=.t 54
abbrev t55:RA:=.t 55
abbrev t56:RA:=.t 56
abbrev t57:RA:=.t 57
abbrev t58:RA:=.t 58
abbrev t59:RA:=.t 59
abbrev t60:RA:=.t 60
abbrev t61:RA:=.t 61
abbrev t62:RA:=.t 62
abbrev t63:RA:=.t 63
abbrev t64:RA:=.t 64
abbrev t65:RA:=.t 65
abbrev t66:RA:=.t 66
abbrev t67:RA:=.t 67
abbrev t68:RA:=.t 68
abbrev t69:RA:=.t 69
abbrev t70:RA:=.t 70
abbrev t71:RA:=.t 71
abbrev t72:RA:=.t 72
abbrev t73:RA:=.t 73
abbrev t74:RA:=.t 74
abbrev t75:RA:=.t 75
abbrev t76:RA:=.t 76
abbrev t77:RA:=.t 77
abbrev t78:RA:=.t 78
abbrev t79:RA:=.t 79
abbrev t80:RA:=.t 80
abbrev t81:RA:=.t 81
abbrev t82:RA:=.t 82
abbrev t83:RA:=.t 83
abbrev t84:RA:=.t 84
abbrev t85:RA:=.t 85
abbrev t86:RA:=.t 86
abbrev t87:RA:=.t 87
abbrev t88:RA:=.t 88
abbrev t89:RA:=.t 89
abbrev t90:RA:=.t 90
abbrev t91:RA:=.t 91
abbrev t92:RA:=.t 92
abbrev t93:RA:=.t 93
abbrev t94:RA:=.t 94
abbrev t95:RA:=.t 95
abbrev t96:RA:=.t 96
abbrev t97:RA:=.t 97
abbrev t98:RA:=.t 98
abbrev t99:RA:=.t 99
abbrev c1z:RA:=.t 100
abbrev c1A:RA:=.t 101
abbrev c1B:RA:=.t 102
abbrev c1C:RA:=.t 103
abbrev c1D:RA:=.t 104
abbrev c1E:RA:=.t 105
abbrev c1F:RA:=.t 106
abbrev c1G:RA:=.t 107
abbrev c1H:RA:=.t 108
abbrev c1I:RA:=.t 109
abbrev c0h:RA:=.t 110
abbrev c1J:RA:=.t 111
abbrev c1K:RA:=.t 112
abbrev c1L:RA:=.t 113
abbrev c1M:RA:=.t 114
abbrev c1N:RA:=.t 115
abbrev c1O:RA:=.t 116
abbrev c1P:RA:=.t 117
abbrev c1Q:RA:=.t 118
abbrev c1R:RA:=.t 119
abbrev c1S:RA:=.t 120
abbrev c1T:RA:=.t 121
abbrev c1U:RA:=.t 122
abbrev c1V:RA:=.t 123
abbrev c1W:RA:=.t 124
abbrev c1X:RA:=.t 125
abbrev c1Y:RA:=.t 126
abbrev c1Z:RA:=.t 127
abbrev c2a:RA:=.t 128
abbrev c2b:RA:=.t 129
abbrev c2c:RA:=.t 130
abbrev c2d:RA:=.t 131
abbrev c2e:RA:=.t 132
abbrev c2f:RA:=.t 133
abbrev c2g:RA:=.t 134
abbrev c2h:RA:=.t 135
abbrev c2i:RA:=.t 136
abbrev c2j:RA:=.t 137
abbrev c2k:RA:=.t 138
abbrev c3P:RA:=.t 139
abbrev c3Q:RA:=.t 140
abbrev c3R:RA:=.t 141
abbrev c3S:RA:=.t 142
abbrev c3T:RA:=.t 143
abbrev c3U:RA:=.t 144
abbrev c3V:RA:=.t 145
abbrev c3W:RA:=.t 146
abbrev c3X:RA:=.t 147
abbrev c3Y:RA:=.t 148
abbrev c4Q:RA:=.t 149
abbrev c4R:RA:=.t 150
abbrev c4S:RA:=.t 151
abbrev c4T:RA:=.t 152
abbrev c4U:RA:=.t 153
abbrev c4V:RA:=.t 154
abbrev c4W:RA:=.t 155
abbrev c4X:RA:=.t 156
abbrev c4Y:RA:=.t 157
abbrev c4Z:RA:=.t 158
abbrev c5a:RA:=.t 159
abbrev c5b:RA:=.t 160
abbrev c5c:RA:=.t 161
abbrev c5d:RA:=.t 162
abbrev c5e:RA:=.t 163
abbrev c5f:RA:=.t 164
abbrev c5g:RA:=.t 165
abbrev c5h:RA:=.t 166
abbrev c5i:RA:=.t 167
abbrev c5j:RA:=.t 168
abbrev c5k:RA:=.t 169
abbrev c5l:RA:=.t 170
abbrev c5m:RA:=.t 171
abbrev c5n:RA:=.t 172
abbrev c5o:RA:=.t 173
abbrev c5p:RA:=.t 174
abbrev c5q:RA:=.t 175
abbrev c5r:RA:=.t 176
abbrev c5s:RA:=.t 177
abbrev c3Z:RA:=.t 178
abbrev c5t:RA:=.t 179
abbrev c5u:RA:=.t 180
abbrev c5v:RA:=.t 181
abbrev c5w:RA:=.t 182
abbrev c5x:RA:=.t 183
abbrev c5y:RA:=.t 184
abbrev c5z:RA:=.t 185
abbrev c6n:RA:=.t 186
abbrev c6o:RA:=.t 187
abbrev c6p:RA:=.t 188
abbrev c6q:RA:=.t 189
abbrev c6r:RA:=.t 190
abbrev c6s:RA:=.t 191
abbrev c6t:RA:=.t 192
abbrev c6u:RA:=.t 193
abbrev c6v:RA:=.t 194
abbrev c6w:RA:=.t 195
abbrev c6x:RA:=.t 196
abbrev c6y:RA:=.t 197
abbrev c6z:RA:=.t 198
abbrev c6A:RA:=.t 199
abbrev c5A:RA:=.t 200
abbrev c6B:RA:=.t 201
abbrev c6C:RA:=.t 202
abbrev c6D:RA:=.t 203
abbrev c6E:RA:=.t 204
abbrev c6F:RA:=.t 205
abbrev c6G:RA:=.t 206
abbrev c6H:RA:=.t 207
abbrev c6I:RA:=.t 208
abbrev c6J:RA:=.t 209
abbrev c5B:RA:=.t 210
abbrev c6K:RA:=.t 211
abbrev c6L:RA:=.t 212
abbrev c6M:RA:=.t 213
abbrev c6N:RA:=.t 214
abbrev c6O:RA:=.t 215
abbrev c6P:RA:=.t 216
abbrev c5C:RA:=.t 217
abbrev c6Q:RA:=.t 218
abbrev c6R:RA:=.t 219
abbrev c6S:RA:=.t 220
abbrev c6T:RA:=.t 221
abbrev c6U:RA:=.t 222
abbrev c6V:RA:=.t 223
abbrev c6W:RA:=.t 224
abbrev c6X:RA:=.t 225
abbrev c6Y:RA:=.t 226
abbrev c6Z:RA:=.t 227
abbrev c7a:RA:=.t 228
abbrev c7b:RA:=.t 229
abbrev c7c:RA:=.t 230
abbrev c7d:RA:=.t 231
abbrev c7e:RA:=.t 232
abbrev c7f:RA:=.t 233
abbrev c7g:RA:=.t 234
abbrev c7h:RA:=.t 235
abbrev c7i:RA:=.t 236
abbrev c7j:RA:=.t 237
abbrev c7k:RA:=.t 238
abbrev c7l:RA:=.t 239
abbrev c7m:RA:=.t 240
abbrev c7n:RA:=.t 241
abbrev c7o:RA:=.t 242
abbrev c7p:RA:=.t 243
abbrev c7q:RA:=.t 246
abbrev c7r:RA:=.t 247
abbrev c7s:RA:=.t 248
abbrev c7t:RA:=.t 249
abbrev c7u:RA:=.t 251
abbrev c7v:RA:=.t 252
abbrev c7w:RA:=.t 253
end Go.Ab.Td
namespace Go.Ab.Td
open Go.Ab
def a0F:x4:=⟨4,254,[.tmp 8],
 .seq (.b9 [i 4 (.box 3 t0) 0,
 i 5 (.box 15 t1) 0,
 i 8 (.mv (.c (.pv (.bool false)))) 0] false)
 (.seq (.seq (.b9 [i 32 (.call (.f O2) []) 0,
 i 33 (.not t32) 1] false)
 (.cond t33
 (.seq (.b9 [i 8 (.mv (.c (.pv (.bool false)))) 0] false)
 .ret)
 .skip))
 (.seq (.b9 [i 34 (.load true 3 t4) 0,
 i 35 (.call (.f B3) [t34]) 1,
 i 9 (.alloc z1) 0,
 iz (.store 67 t9 t35) 7] false)
 (.seq (.b9 [i 36 (.a4p 3 5 t5 (.c (I 0))) 0,
 i 37 (.load true 5 t36) 1,
 i 38 (.b0 t9 2) 0,
 i 39 (.load false 1 t38) 4,
 i 40 (.call (.f i7) [t37,t39]) 15,
 i 41 (.a4p 3 5 t5 (.c (I 1))) 0,
 i 42 (.load true 5 t41) 32,
 i 43 (.b0 t9 2) 0,
 i 44 (.load false 1 t43) 128,
 i 45 (.call (.f i7) [t42,t44]) 511,
 i 10 (.alloc z0) 0,
 i 11 (.alloc z0) 0,
 iz (.store 7 A7 t40) 4095,
 iz (.store 7 C1 t45) 8191] true)
 (.seq (.b9 [i 47 (.b0 t9 2) 0,
 i 48 (.load false 1 t47) 1,
 i 49 (.load true 7 A7) 0,
 i 50 (.call (.f A9) [t48,t49]) 7,
 i 46 (mv t50) 15,
 i 51 (.extract t46 0) 31,
 i 52 (.extract t46 1) 31,
 i 12 (.alloc z0) 0,
 iz (.store 7 E3 t51) 191,
 i 13 (mv t52) 511] false)
 (.seq (.b9 [i 54 (.b0 t9 2) 0,
 i 55 (.load false 1 t54) 1,
 i 56 (.a4p 3 5 t5 (.c (I 2))) 0,
 i 57 (.load true 5 t56) 4,
 i 58 (.b0 t9 2) 0,
 i 59 (.load false 1 t58) 16,
 i 60 (.call (.f i7) [t57,t59]) 60,
 i 61 (.call (.f A9) [t55,t60]) 127,
 i 53 (mv t61) 255,
 i 62 (.extract t53 0) 511,
 i 63 (.extract t53 1) 511,
 i 14 (.alloc z0) 0,
 iz (.store 7 L7 t62) 3071,
 i 15 (mv t63) 8191] true)
 (.seq (.b9 [i 64 (.call (.f x6) []) 0,
 i 65 (mv t2) 0,
 i 66 (.bin .rem t65 (.c (.pv (.int .u8 (5))))) 2,
 i 67 (.o9 1 t64 t66) 7,
 i 68 (.load false 1 t67) 15,
 i 69 (.call (.f x6) []) 1,
 i 70 (mv t3) 0,
 i 71 (.bin .rem t70 (.c (.pv (.int .u8 (5))))) 64,
 i 72 (.o9 1 t69 t71) 225,
 i 73 (.load false 1 t72) 481,
 i 16 (mv t68) 63,
 i 17 (mv t73) 2047] true)
 (.seq (.b9 [i 75 (.load true 67 t9) 0,
 i 76 (.load true 7 A7) 0,
 i 77 (.load true 7 C1) 0,
 i 78 (mv M4) 0,
 i 79 (.call (.f n7) [t78]) 8,
 i 80 (.Z5 7 3 z0 [(0,t76),(1,t77),(2,t79)]) 30,
 i 81 (.call (.f x2) [t75,t80]) 63,
 i 82 (.call (.f k7) [t81,.c (.pv (.str [100,101,102,105,110,101,114,101,115,111,117,114,99,101]))]) 127,
 i 74 (mv t82) 255,
 i 83 (.extract t74 0) 511,
 i 84 (.extract t74 1) 511,
 i 18 (.alloc z1) 0,
 iz (.store 67 P4 t83) 3071,
 i 19 (mv t84) 8191] true)
 (.seq (.seq (.b9 [i 85 (mv R5) 0,
 i 86 (.bin .neq t85 (.c (I 0))) 1] false)
 (.cond t86
 (.seq (.b9 [i 87 (mv H6) 0,
 i 88 (.bin .neq t87 (.c (I 0))) 1,
 i 89 (mv t88) 3,
 ig 90 (mv R5) 89 true 7,
 ig 91 (mv H6) 89 true 7,
 ig 92 (.bin .eql t90 t91) 89 true 31,
 i 93 (.pick t89 t92 (.c (.pv (.bool false)))) 63,
 i 94 (mv t93) 127,
 ig 95 (mv H6) 94 false 255,
 ig 96 (.bin .eql t95 (.c (I 0))) 94 false 511,
 ig 97 (mv t96) 94 false 1023,
 ig 98 (mv R5) 97 true 2047,
 ig 99 (.bin .eql t98 (.c (I 22))) 97 true 4095,
 ig 100 (mv t99) 97 true 8191,
 ig 101 (mv M4) 100 true 16383,
 ig 102 (.bin .neq c1A (.c (.pv (.str [71,101,110,101,114,105,99])))) 100 true 32767,
 ig 103 (.pick c1z c1B (.c (.pv (.bool false)))) 97 true 65535,
 ig 104 (mv c1C) 97 true 131071,
 ig 105 (mv R5) 104 false 262143,
 ig 106 (.bin .eql c1E (.c (I 30))) 104 false 524287,
 ig 107 (.pick c1D (.c (.pv (.bool true))) c1F) 97 true 1048575,
 ig 108 (.pick t97 c1G (.c (.pv (.bool false)))) 94 false 2097151,
 i 109 (.pick t94 (.c (.pv (.bool true))) c1H) 4194303,
 i 8 (mv c1I) 8388607] false)
 .ret)
 .skip))
 (.seq (.b9 [i 111 (.load true 67 P4) 0,
 i 112 (mv M4) 0,
 i 113 (.load true 7 E3) 0,
 i 114 (.call (.f p7) [c1J,c1K,c1L]) 7,
 i 110 (mv c1M) 15,
 i 115 (.extract c0h 0) 31,
 i 116 (.extract c0h 1) 31,
 i 20 (.alloc z0) 0,
 iz (.store 7 U9 c1N) 191,
 i 21 (mv c1O) 511] false)
 (.seq (.seq (.b9 [i 117 (mv H6) 0,
 i 118 (.bin .neq c1P (.c (I 0))) 1,
 i 119 (mv c1Q) 3,
 ig 120 (mv T8) 119 false 7,
 ig 121 (.bin .neq c1S (.c (I 0))) 119 false 15,
 i 122 (.pick c1R (.c (.pv (.bool true))) c1T) 31,
 i 123 (mv c1U) 63,
 ig 124 (.load true 7 U9) 123 false 127,
 ig 125 (.load true 7 C1) 123 false 127,
 ig 126 (.eqs true [0,1,0,2,0,0,0] c1W c1X) 123 false 511,
 i 127 (.pick c1V (.c (.pv (.bool true))) c1Y) 1023,
 i 128 (mv c1Z) 2047,
 ig 129 (.b0 P4 0) 128 false 4095,
 ig 130 (.load false 1 c2b) 128 false 8191,
 ig 131 (.load true 7 C1) 128 false 4095,
 ig 132 (.Z5 7 1 z0 [(0,c2d)]) 128 false 20479,
 ig 133 (.call (.f s7) [c2c,c2e]) 128 false 65535,
 ig 134 (.not c2f) 128 false 131071,
 i 135 (.pick c2a (.c (.pv (.bool true))) c2g) 262143,
 i 136 (mv c2h) 524287,
 ig 137 (.b0 P4 2) 136 false 1048575,
 ig 138 (.load false 1 c2j) 136 false 2097151,
 ig 139 (.call (.f A8) [c2k]) 136 false 4194303,
 ig 140 (.bin .neq c3P (.c (I 0))) 136 false 8388607,
 i 141 (.pick c2i (.c (.pv (.bool true))) c3Q) 16777215,
 i 142 (mv c3R) 33554431,
 ig 143 (.load true 67 P4) 142 false 67108863,
 ig 144 (.load true 7 A7) 142 false 67108863,
 ig 145 (mv M4) 142 false 67108863,
 ig 146 (.call (.f n7) [c3V]) 142 false 335544319,
 ig 147 (.Z5 7 2 z0 [(0,c3U),(1,c3W)]) 142 false 1006632959,
 ig 148 (.call (.f x2) [c3T,c3X]) 142 false 2147483647,
 ig 149 (.call (.f F4) [.c (.pv (.bool true))]) 142 false 4294967295,
 ig 150 (.Z5 7 1 z0 [(0,c4Q)]) 142 false 8589934591,
 ig 151 (.call (.f J6) [c3Y,.c (.pv (.str [114,101,115,111,117,114,99,101,115,116,97,116,117,115])),c4R]) 142 false 17179869183,
 ig 152 (.not c4S) 142 false 34359738367,
 i 153 (.pick c3S (.c (.pv (.bool true))) c4T) 68719476735,
 i 154 (mv c4U) 137438953471,
 ig 155 (.load true 67 P4) 154 false 274877906943,
 ig 156 (.load true 7 A7) 154 false 274877906943,
 ig 157 (mv M4) 154 false 274877906943,
 ig 158 (.call (.f n7) [c4Y]) 154 false 1374389534719,
 ig 159 (.Z5 7 2 z0 [(0,c4X),(1,c4Z)]) 154 false 4123168604159,
 ig 160 (.call (.f x2) [c4W,c5a]) 154 false 8796093022207,
 ig 161 (.load true 7 C1) 154 false 274877906943,
 ig 162 (.Z5 7 1 z0 [(0,c5c)]) 154 false 17867063951359,
 ig 163 (.call (.f J6) [c5b,.c (.pv (.str [102,105,110,100,114,101,115,111,117,114,99,101])),c5d]) 154 false 70368744177663,
 ig 164 (.not c5e) 154 false 140737488355327,
 i 165 (.pick c4V (.c (.pv (.bool true))) c5f) 281474976710655] true)
 (.cond c5g
 (.seq (.b9 [i 8 (.mv (.c (.pv (.bool false)))) 0] false)
 .ret)
 .skip))
 (.seq (.seq (.b9 [i 166 (mv P9) 0,
 i 167 (.bin .eql c5h (.c (I 0))) 1,
 i 168 (mv c5i) 3,
 ig 169 (.load true 7 L7) 168 true 7,
 ig 170 (.load true 7 E3) 168 true 7,
 ig 171 (.eqs true [0,1,0,2,0,0,0] c5k c5l) 168 true 31,
 ig 172 (mv c5m) 168 true 63,
 ig 173 (mv M4) 172 false 127,
 ig 174 (mv M5) 172 false 127,
 ig 175 (.bin .neq c5o c5p) 172 false 511,
 ig 176 (.pick c5n (.c (.pv (.bool true))) c5q) 168 true 1023,
 i 177 (.pick c5j c5r (.c (.pv (.bool false)))) 2047] false)
 (.cond c5s
 (.seq (.b9 [i 179 (.load true 67 t9) 0,
 i 180 (mv M5) 0,
 i 181 (.load true 7 L7) 0,
 i 182 (.call (.f p7) [c5t,c5u,c5v]) 7,
 i 178 (mv c5w) 15,
 i 183 (.extract c3Z 0) 31,
 i 184 (.extract c3Z 1) 31,
 i 22 (.alloc z0) 0,
 iz (.store 7 Z4 c5x) 191,
 i 23 (mv c5y) 511] false)
 (.seq (.b9 [i 186 (.load true 67 P4) 0,
 i 187 (mv M5) 0,
 i 188 (.load true 7 L7) 0,
 i 189 (.call (.f p7) [c6n,c6o,c6p]) 7,
 i 185 (mv c6q) 15,
 i 190 (.extract c5z 0) 31,
 i 191 (.extract c5z 1) 31,
 i 24 (.alloc z0) 0,
 iz (.store 7 t24 c6r) 191,
 i 25 (mv c6s) 511] false)
 (.seq (.b9 [i 192 (.load true 7 Z4) 0,
 i 193 (.load true 7 t24) 0,
 i 194 (.eqs true [0,1,0,2,0,0,0] c6t c6u) 3,
 i 195 (mv c6v) 7,
 ig 196 (mv t23) 195 false 15,
 ig 197 (mv t25) 195 false 15,
 ig 198 (.bin .neq c6x c6y) 195 false 63,
 i 199 (.pick c6w (.c (.pv (.bool true))) c6z) 127] false)
 (.cond c6A
 (.seq (.b9 [i 8 (.mv (.c (.pv (.bool false)))) 0] false)
 .ret)
 .skip))))
 .skip))
 (.seq (.b9 [i 201 (.load true 67 P4) 0,
 i 202 (.load true 7 A7) 0,
 i 203 (mv M4) 0,
 i 204 (.call (.f n7) [c6D]) 4,
 i 205 (.Z5 7 2 z0 [(0,c6C),(1,c6E)]) 14,
 i 206 (.call (.f x2) [c6B,c6F]) 31,
 i 207 (.call (.f k7) [c6G,.c (.pv (.str [117,110,100,101,102,105,110,101,114,101,115,111,117,114,99,101]))]) 63,
 i 200 (mv c6H) 127,
 i 208 (.extract c5A 0) 255,
 i 209 (.extract c5A 1) 255,
 i 26 (.alloc z1) 0,
 iz (.store 67 t26 c6I) 1535,
 i 27 (mv c6J) 4095] true)
 (.seq (.b9 [i 211 (.load true 67 t26) 0,
 i 212 (mv M4) 0,
 i 213 (.load true 7 E3) 0,
 i 214 (.call (.f p7) [c6K,c6L,c6M]) 7,
 i 210 (mv c6N) 15,
 i 215 (.extract c5B 0) 31,
 i 216 (.extract c5B 1) 31,
 i 28 (.alloc z0) 0,
 iz (.store 7 t28 c6O) 191,
 i 29 (mv c6P) 511] false)
 (.seq (.b9 [i 218 (.load true 67 t26) 0,
 i 219 (.load true 7 A7) 0,
 i 220 (mv M4) 0,
 i 221 (.call (.f n7) [c6S]) 4,
 i 222 (.Z5 7 2 z0 [(0,c6R),(1,c6T)]) 14,
 i 223 (.call (.f x2) [c6Q,c6U]) 31,
 i 224 (.call (.f k7) [c6V,.c (.pv (.str [117,110,100,101,102,105,110,101,114,101,115,111,117,114,99,101]))]) 63,
 i 217 (mv c6W) 127,
 i 225 (.extract c5C 0) 255,
 i 226 (.extract c5C 1) 255,
 i 30 (.alloc z1) 0,
 iz (.store 67 t30 c6X) 1535,
 i 31 (mv c6Y) 4095] true)
 (.seq (.b9 [i 227 (mv t27) 0,
 i 228 (.bin .eql c6Z (.c (I 0))) 1,
 i 229 (mv c7a) 3,
 ig 230 (mv t29) 229 true 7,
 ig 231 (.bin .eql c7c (.c (I 40))) 229 true 15,
 i 232 (.pick c7b c7d (.c (.pv (.bool false)))) 31,
 i 233 (mv c7e) 63,
 ig 234 (mv t31) 233 true 127,
 ig 235 (.bin .eql c7g (.c (I 0))) 233 true 255,
 i 236 (.pick c7f c7h (.c (.pv (.bool false)))) 511,
 i 237 (mv c7i) 1023,
 ig 238 (.b0 t26 0) 237 true 2047,
 ig 239 (.load false 1 c7k) 237 true 4095,
 ig 240 (.q0 c7l) 237 true 8191,
 ig 241 (.bin .eql c7m (.c (I 0))) 237 true 16383,
 i 242 (.pick c7j c7n (.c (.pv (.bool false)))) 32767,
 i 243 (mv c7o) 65535,
 ig 244 (.load true 67 t30) 243 true 131071,
 ig 245 (.load true 67 t26) 243 true 131071,
 ig 246 (.call (.f B1) [.t 244,.t 245]) 243 true 524287,
 i 247 (.pick c7p c7q (.c (.pv (.bool false)))) 1048575,
 i 248 (mv c7r) 2097151,
 ig 249 (.b0 t26 2) 248 true 4194303,
 ig 250 (.load false 1 c7t) 248 true 8388607,
 ig 251 (.call (.f A8) [.t 250]) 248 true 16777215,
 ig 252 (.bin .eql c7u (.c (I 0))) 248 true 33554431,
 i 253 (.pick c7s c7v (.c (.pv (.bool false)))) 67108863,
 i 8 (mv c7w) 134217727] false)
 .ret)))))))))))))))⟩
def a0P:x4:=⟨2,84,[.cell 4 true 7],
 .seq (.b9 [i 2 (.box 5 t0) 0,
 i 4 (.alloc z0) 0] false)
 (.seq (.b9 [i 6 (.b0 t2 3) 0,
 i 7 (.load false 1 t6) 1,
 i 8 (.conv .i64 t7) 3,
 i 5 (mv t8) 7] false)
 (.seq (.seq (.b9 [i 9 (.b0 t2 0) 0,
 i 10 (.load false 1 t9) 1,
 i 11 (.bin .rem A7 (.c (.pv (.int .u8 (16))))) 3] false)
 (.block 0
 (.seq (.b9 [i 13 (.bin .eql C1 (.c (.pv (.int .u8 (0))))) 0,
 i 12 (mv H6) 1] false)
 (.cond E3
 (.seq (.b9 [i 14 (.build z0 [(0,1,.c (I 0))]) 0,
 iz (.store 7 t4 L7) 1] false)
 .ret)
 (.seq (.b9 [i 16 (.bin .eql C1 (.c (.pv (.int .u8 (1))))) 0,
 i 15 (mv M4) 1] false)
 (.cond P9
 (.seq (.b9 [i 17 (.build z0 [(0,1,.c (I 1))]) 0,
 iz (.store 7 t4 M5) 1] false)
 .ret)
 (.seq (.b9 [i 19 (.bin .eql C1 (.c (.pv (.int .u8 (2))))) 0,
 i 18 (mv R5) 1] false)
 (.cond P4
 (.seq (.b9 [i 20 (.b0 t2 1) 0,
 i 21 (.load false 1 U9) 1,
 i 22 (.bin .rem T8 (.c (.pv (.int .u8 (2))))) 3,
 i 23 (.conv .i64 Z4) 7,
 i 24 (.build z0 [(0,1,.c (I 2)),(2,1,t23)]) 15,
 iz (.store 7 t4 t24) 31] false)
 .ret)
 (.seq (.seq (.b9 [i 26 (.bin .eql C1 (.c (.pv (.int .u8 (3))))) 0,
 i 25 (mv t26) 1] false)
 (.cond t25
 .skip
 (.b9 [i 27 (.bin .eql C1 (.c (.pv (.int .u8 (4))))) 0,
 i 25 (mv t27) 1] false)))
 (.cond t25
 (.seq (.b9 [i 28 (mv t5) 0,
 i 29 (.bin .rem t28 (.c (I 10))) 1,
 i 30 (.build z0 [(0,1,.c (I 3)),(2,1,t29)]) 3,
 iz (.store 7 t4 t30) 7] false)
 .ret)
 (.seq (.b9 [i 32 (.bin .eql C1 (.c (.pv (.int .u8 (5))))) 0,
 i 31 (mv t32) 1] false)
 (.cond t31
 (.seq (.b9 [i 33 (mv t5) 0,
 i 34 (.build z0 [(0,1,.c (I 3)),(2,1,t33)]) 1,
 iz (.store 7 t4 t34) 3] false)
 .ret)
 (.seq (.b9 [i 36 (.bin .eql C1 (.c (.pv (.int .u8 (6))))) 0,
 i 35 (mv t36) 1] false)
 (.cond t35
 (.seq (.b9 [i 37 (mv t5) 0,
 i 38 (.bin .rem t37 (.c (I 1048576))) 1,
 i 39 (.build z0 [(0,1,.c (I 4)),(2,1,t38)]) 3,
 iz (.store 7 t4 t39) 7] false)
 .ret)
 (.seq (.b9 [i 41 (.bin .eql C1 (.c (.pv (.int .u8 (7))))) 0,
 i 40 (mv t41) 1] false)
 (.cond t40
 (.seq (.b9 [i 42 (mv t5) 0,
 i 43 (.build z0 [(0,1,.c (I 4)),(2,1,t42)]) 1,
 iz (.store 7 t4 t43) 3] false)
 .ret)
 (.seq (.seq (.b9 [i 45 (.bin .eql C1 (.c (.pv (.int .u8 (8))))) 0,
 i 44 (mv t45) 1] false)
 (.cond t44
 .skip
 (.b9 [i 46 (.bin .eql C1 (.c (.pv (.int .u8 (9))))) 0,
 i 44 (mv t46) 1] false)))
 (.cond t44
 (.seq (.b9 [i 47 (.b0 t2 0) 0,
 i 48 (.load false 1 t47) 1,
 i 49 (.bin .rem t48 (.c (.pv (.int .u8 (16))))) 3,
 i 50 (.bin .eql t49 (.c (.pv (.int .u8 (9))))) 7,
 i 51 (.b0 t2 1) 0,
 i 52 (.load false 1 t51) 16,
 i 53 (.conv .i64 t52) 48,
 i 54 (.bin .rem t53 (.c (I 8))) 112,
 i 55 (.a4p 8 1 (.g 0) t54) 240,
 i 56 (.load false 1 t55) 496,
 i 57 (.build z0 [(0,1,.c (I 5)),(1,1,t50),(3,1,t56)]) 1023,
 iz (.store 7 t4 t57) 2047] true)
 .ret)
 (.seq (.b9 [i 59 (.bin .eql C1 (.c (.pv (.int .u8 (10))))) 0,
 i 58 (mv t59) 1] false)
 (.cond t58
 (.seq (.b9 [i 60 (mv t1) 0,
 i 61 (.load true 5 t2) 0,
 i 62 (.call (.f s0) [t60,.c (I 6),.c (I 1),t61]) 3,
 iz (.store 7 t4 t62) 7] false)
 .ret)
 (.seq (.b9 [i 64 (.bin .eql C1 (.c (.pv (.int .u8 (11))))) 0,
 i 63 (mv t64) 1] false)
 (.cond t63
 (.seq (.b9 [i 65 (mv t1) 0,
 i 66 (.load true 5 t2) 0,
 i 67 (.call (.f s0) [t65,.c (I 7),.c (I 2),t66]) 3,
 iz (.store 7 t4 t67) 7] false)
 .ret)
 (.seq (.b9 [i 69 (.bin .eql C1 (.c (.pv (.int .u8 (12))))) 0,
 i 68 (mv t69) 1] false)
 (.cond t68
 (.seq (.b9 [i 70 (mv t1) 0,
 i 71 (.load true 5 t2) 0,
 i 72 (.call (.f s0) [t70,.c (I 8),.c (I 2),t71]) 3,
 iz (.store 7 t4 t72) 7] false)
 .ret)
 (.seq (.b9 [i 74 (.bin .eql C1 (.c (.pv (.int .u8 (13))))) 0,
 i 73 (mv t74) 1] false)
 (.cond t73
 (.seq (.b9 [i 75 (mv t1) 0,
 i 76 (.load true 5 t2) 0,
 i 77 (.call (.f s0) [t75,.c (I 9),.c (I 3),t76]) 3,
 iz (.store 7 t4 t77) 7] false)
 .ret)
 (.seq (.b9 [i 79 (.bin .eql C1 (.c (.pv (.int .u8 (14))))) 0,
 i 78 (mv t79) 1] false)
 (.cond t78
 (.seq (.b9 [i 80 (.build z0 [(0,1,.c (I 10)),(1,1,.c (.pv (.bool true))),(3,1,.c (.pv (.str [97,100,100])))]) 0,
 iz (.store 7 t4 t80) 1] false)
 .ret)
 .skip))))))))))))))))))))))))))))
 (.seq (.b9 [i 81 (mv t1) 0,
 i 82 (.load true 5 t2) 0,
 i 83 (.call (.f s0) [t81,.c (I 11),.c (I 4),t82]) 3,
 iz (.store 7 t4 t83) 7] false)
 .ret)))⟩
def a0g:x4:=⟨2,149,[.tmp 4],
 .seq (.b9 [i 2 (.box 67 t0) 0,
 i 3 (.box 67 t1) 0,
 i 4 (.mv (.c (.pv (.bool false)))) 0] false)
 (.seq (.seq (.b9 [i 9 (.b0 t2 0) 0,
 i 10 (.load false 1 t9) 1,
 i 11 (.b0 t3 0) 0,
 i 12 (.load false 1 C1) 4,
 i 13 (.call (.f y1) [A7,E3]) 15,
 i 14 (.not H6) 31,
 i 15 (mv L7) 63,
 ig 16 (.b0 t2 1) 15 false 127,
 ig 17 (.load false 1 M4) 15 false 255,
 ig 18 (.b0 t3 1) 15 false 127,
 ig 19 (.load false 1 P4) 15 false 639,
 ig 20 (.call (.f y1) [M5,R5]) 15 false 2047,
 ig 21 (.not U9) 15 false 4095,
 i 22 (.pick P9 (.c (.pv (.bool true))) T8) 8191,
 i 23 (mv Z4) 16383,
 ig 24 (.b0 t2 2) 23 false 32767,
 ig 25 (.load false 1 t24) 23 false 65535,
 ig 26 (.b0 t3 2) 23 false 32767,
 ig 27 (.load false 1 t26) 23 false 163839,
 ig 28 (.call (.f S7) [t25,t27]) 23 false 524287,
 ig 29 (.not t28) 23 false 1048575,
 i 30 (.pick t23 (.c (.pv (.bool true))) t29) 2097151,
 i 31 (mv t30) 4194303,
 ig 32 (.b0 t2 3) 31 false 8388607,
 ig 33 (.load false 1 t32) 31 false 16777215,
 ig 34 (.q0 t33) 31 false 33554431,
 ig 35 (.b0 t3 3) 31 false 8388607,
 ig 36 (.load false 1 t35) 31 false 75497471,
 ig 37 (.q0 t36) 31 false 209715199,
 ig 38 (.bin .neq t34 t37) 31 false 536870911,
 i 39 (.pick t31 (.c (.pv (.bool true))) t38) 1073741823,
 i 40 (mv t39) 2147483647,
 ig 41 (.b0 t2 4) 40 false 4294967295,
 ig 42 (.load false 1 t41) 40 false 8589934591,
 ig 43 (.b0 t3 4) 40 false 4294967295,
 ig 44 (.load false 1 t43) 40 false 21474836479,
 ig 45 (.bin .neq t42 t44) 40 false 68719476735,
 i 46 (.pick t40 (.c (.pv (.bool true))) t45) 137438953471,
 i 47 (mv t46) 274877906943,
 ig 48 (.b0 t2 62) 47 false 549755813887,
 ig 49 (.load false 1 t48) 47 false 1099511627775,
 ig 50 (.q0 t49) 47 false 2199023255551,
 ig 51 (.b0 t3 62) 47 false 549755813887,
 ig 52 (.load false 1 t51) 47 false 4947802324991,
 ig 53 (.q0 t52) 47 false 13743895347199,
 ig 54 (.bin .neq t50 t53) 47 false 35184372088831,
 i 55 (.pick t47 (.c (.pv (.bool true))) t54) 70368744177663,
 i 56 (mv t55) 140737488355327,
 ig 57 (.b0 t2 65) 56 false 281474976710655,
 ig 58 (.load false 1 t57) 56 false 562949953421311,
 ig 59 (.b0 t3 65) 56 false 281474976710655,
 ig 60 (.load false 1 t59) 56 false 1407374883553279,
 ig 61 (.bin .neq t58 t60) 56 false 4503599627370495,
 i 62 (.pick t56 (.c (.pv (.bool true))) t61) 9007199254740991,
 i 63 (mv t62) 18014398509481983,
 ig 64 (.b0 t2 66) 63 false 36028797018963967,
 ig 65 (.load false 1 t64) 63 false 72057594037927935,
 ig 66 (.b0 t3 66) 63 false 36028797018963967,
 ig 67 (.load false 1 t66) 63 false 180143985094819839,
 ig 68 (.bin .neq t65 t67) 63 false 576460752303423487,
 i 69 (.pick t63 (.c (.pv (.bool true))) t68) 1152921504606846975] false)
 (.cond t69
 (.seq (.b9 [i 4 (.mv (.c (.pv (.bool false)))) 0] false)
 .ret)
 .skip))
 (.seq (.seq (.b9 [i 5 (.mv (.c (I 0))) 0] false)
 (.block 0
 (.loop [2,3,5]
 (.seq (.seq (.b9 [i 70 (mv t5) 0,
 i 71 (.b0 t2 3) 0,
 i 72 (.load false 1 t71) 2,
 i 73 (.q0 t72) 6,
 i 74 (.bin .lss t70 t73) 15] false)
 (.cond t74
 .skip
 (.exit 0)))
 (.seq (.block 1
 (.seq (.b9 [i 77 (.b0 t2 3) 0,
 i 78 (.load false 1 t77) 1,
 i 79 (mv t5) 0,
 i 80 (.o9 3 t78 t79) 7,
 i 81 (.load true 3 t80) 15,
 i 82 (.b0 t3 3) 0,
 i 83 (.load false 1 t82) 32,
 i 84 (mv t5) 0,
 i 85 (.o9 3 t83 t84) 224,
 i 86 (.load true 3 t85) 480,
 i 6 (.alloc [I 0,.emp 7,I 0]) 0,
 i 7 (.alloc [I 0,.emp 7,I 0]) 0,
 iz (.store 3 t6 t81) 3103,
 iz (.store 3 t7 t86) 8191] true)
 (.seq (.b9 [i 87 (.b0 t6 0) 0,
 i 88 (.load false 1 t87) 1,
 i 89 (.b0 t7 0) 0,
 i 90 (.load false 1 t89) 4,
 i 91 (.bin .neq t88 t90) 15,
 i 92 (mv t91) 31,
 ig 93 (.b0 t6 2) 92 false 63,
 ig 94 (.load false 1 t93) 92 false 127,
 ig 95 (.b0 t7 2) 92 false 63,
 ig 96 (.load false 1 t95) 92 false 319,
 ig 97 (.bin .neq t94 t96) 92 false 1023,
 i 98 (.pick t92 (.c (.pv (.bool true))) t97) 2047,
 i 99 (mv t98) 4095,
 ig 100 (.b0 t6 1) 99 false 8191,
 ig 101 (.load false 1 c1z) 99 false 16383,
 ig 102 (.b0 t7 1) 99 false 8191,
 ig 103 (.load false 1 c1B) 99 false 40959,
 ig 104 (.call (.f S7) [c1A,c1C]) 99 false 131071,
 ig 105 (.not c1D) 99 false 262143,
 i 106 (.pick t99 (.c (.pv (.bool true))) c1E) 524287] false)
 (.cond c1F
 (.seq (.b9 [i 4 (.mv (.c (.pv (.bool false)))) 0] false)
 .ret)
 .skip))))
 (.b9 [i 75 (mv t5) 0,
 i 76 (.bin .add t75 (.c (I 1))) 1,
 i 5 (mv t76) 3] false))))))
 (.seq (.seq (.b9 [i 8 (.mv (.c (I 0))) 0] false)
 (.block 2
 (.loop [2,3,8]
 (.seq (.seq (.b9 [i 107 (mv t8) 0,
 i 108 (.b0 t2 62) 0,
 i 109 (.load false 1 c1H) 2,
 i 110 (.q0 c1I) 6,
 i 111 (.bin .lss c1G c0h) 15] false)
 (.cond c1J
 .skip
 (.exit 2)))
 (.seq (.block 3
 (.seq (.b9 [i 114 (.b0 t2 62) 0,
 i 115 (.load false 1 c1M) 1,
 i 116 (mv t8) 0,
 i 117 (.o9 57 c1N c1O) 7,
 i 118 (.load true 57 c1P) 15,
 i 119 (.b0 t3 62) 0,
 i 120 (.load false 1 c1R) 32,
 i 121 (mv t8) 0,
 i 122 (.o9 57 c1S c1T) 224,
 i 123 (.load true 57 c1U) 480,
 i 124 (.call (.f O4) [c1Q,c1V]) 1023,
 i 125 (.not c1W) 2047] true)
 (.cond c1X
 (.seq (.b9 [i 4 (.mv (.c (.pv (.bool false)))) 0] false)
 .ret)
 .skip)))
 (.b9 [i 112 (mv t8) 0,
 i 113 (.bin .add c1K (.c (I 1))) 1,
 i 8 (mv c1L) 3] false))))))
 (.seq (.b9 [i 126 (.b0 t2 5) 0,
 i 127 (.load true 57 c1Y) 1,
 i 128 (.b0 t3 5) 0,
 i 129 (.load true 57 c2a) 4,
 i 130 (.call (.f O4) [c1Z,c2b]) 15,
 i 131 (mv c2c) 31,
 ig 132 (.b0 t2 63) 131 true 63,
 ig 133 (.load false 1 c2e) 131 true 127,
 ig 134 (.q0 c2f) 131 true 255,
 ig 135 (.b0 t3 63) 131 true 63,
 ig 136 (.load false 1 c2h) 131 true 575,
 ig 137 (.q0 c2i) 131 true 1599,
 ig 138 (.bin .eql c2g c2j) 131 true 4095,
 i 139 (.pick c2d c2k (.c (.pv (.bool false)))) 8191,
 i 140 (mv c3P) 16383,
 ig 141 (.b0 t2 64) 140 true 32767,
 ig 142 (.load false 1 c3R) 140 true 65535,
 ig 143 (.q0 c3S) 140 true 131071,
 ig 144 (.b0 t3 64) 140 true 32767,
 ig 145 (.load false 1 c3U) 140 true 294911,
 ig 146 (.q0 c3V) 140 true 819199,
 ig 147 (.bin .eql c3T c3W) 140 true 2097151,
 i 148 (.pick c3Q c3X (.c (.pv (.bool false)))) 4194303,
 i 4 (mv c3Y) 8388607] false)
 .ret))))⟩
def a3y:x4:=⟨0,185,[.tmp 0],
 .seq (.b9 [i 0 (.mv (.c (.pv (.bool false)))) 0] false)
 (.seq (.b9 [i 22 (.call (.f a0t) []) 0,
 i 1 (mv Z4) 1] false)
 (.seq (.b9 [i 23 (.build z0 [(0,1,.c (I 9)),(4,1,.c (I 2))]) 0,
 i 2 (.alloc z0) 0,
 iz (.store 7 t2 t23) 3] false)
 (.seq (.b9 [i 25 (mv t1) 0,
 i 26 (.call (.f M3) [.c (I 0),.c (I 1),.c (I 2)]) 0,
 i 27 (.call (.f I6) [t25,t26]) 3,
 i 24 (mv t27) 7,
 i 28 (.extract t24 0) 15,
 i 29 (.extract t24 1) 15,
 i 3 (mv t28) 31,
 i 4 (mv t29) 127] false)
 (.seq (.b9 [i 31 (mv t1) 0,
 i 32 (.build z0 [(0,1,.c (I 7)),(4,1,.c (I 1)),(5,1,.c (I 1)),(6,1,.c (I 1))]) 0,
 i 33 (.call (.f a2j) [t31,t32]) 3,
 i 30 (mv t33) 7,
 i 34 (.extract t30 0) 15,
 i 35 (.extract t30 1) 15,
 i 5 (mv t34) 31,
 i 6 (mv t35) 127] false)
 (.seq (.b9 [i 37 (mv t1) 0,
 i 38 (.call (.f M3) [.c (I 0),.c (I 1),.c (I 4)]) 0,
 i 39 (.call (.f W6) [t37,t38,.c (I 3),.c (.pv (.str [88]))]) 3,
 i 36 (mv t39) 7,
 i 40 (.extract t36 0) 15,
 i 41 (.extract t36 1) 15,
 i 7 (mv t40) 31,
 i 8 (mv t41) 127] false)
 (.seq (.b9 [i 43 (mv t1) 0,
 i 44 (.call (.f M3) [.c (I 0),.c (I 0),.c (I 1)]) 0,
 i 45 (.call (.f A9) [t43,t44]) 3,
 i 42 (mv t45) 7,
 i 46 (.extract t42 0) 15,
 i 47 (.extract t42 1) 15,
 i 9 (.alloc z0) 0,
 iz (.store 7 t9 t46) 95,
 i 10 (mv t47) 255] false)
 (.seq (.b9 [i 49 (mv t1) 0,
 i 50 (.load true 7 t2) 0,
 i 51 (.load true 7 t9) 0,
 i 52 (.call (.f I7) [t49,t50,t51]) 7,
 i 48 (mv t52) 15,
 i 53 (.extract t48 0) 31,
 i 54 (.extract t48 1) 31,
 i 55 (.extract t48 2) 31,
 i 11 (.alloc z0) 0,
 iz (.store 7 C1 t53) 319,
 i 12 (mv t54) 895,
 i 13 (mv t55) 2047] false)
 (.seq (.b9 [i 57 (mv t1) 0,
 i 58 (.load true 7 t2) 0,
 i 59 (.call (.f F1) [.c (.pv (.str [98]))]) 0,
 i 60 (.call (.f F1) [.c (.pv (.str [99]))]) 4,
 i 61 (.call (.f C9) [t57,t58,t59,t60]) 15,
 i 56 (mv t61) 31,
 i 62 (.extract t56 0) 63,
 i 63 (.extract t56 1) 63,
 i 14 (mv t62) 127,
 i 15 (mv t63) 511] true)
 (.seq (.b9 [i 65 (mv L7) 0,
 i 66 (.load true 7 t2) 0,
 i 67 (.call (.f F1) [.c (.pv (.str [99]))]) 0,
 i 68 (.call (.f F1) [.c (.pv (.str [99]))]) 4,
 i 69 (.call (.f C9) [t65,t66,t67,t68]) 15,
 i 64 (mv t69) 31,
 i 70 (.extract t64 0) 63,
 i 71 (.extract t64 1) 63,
 i 16 (mv t70) 127,
 i 17 (mv t71) 511] true)
 (.seq (.b9 [i 73 (mv t1) 0,
 i 74 (.build z2 [(0,1,.c (I 3)),(5,1,.c (I 10000))]) 0,
 i 75 (.call (.f a5f) [t73,t74]) 3,
 i 72 (mv t75) 7,
 i 76 (.extract t72 0) 15,
 i 77 (.extract t72 1) 15,
 i 78 (.extract t72 2) 15,
 i 18 (mv t76) 31,
 i 19 (mv t77) 191,
 i 20 (mv t78) 511] false)
 (.seq (.b9 [i 79 (mv t4) 0,
 i 80 (.bin .eql t79 (.c (I 0))) 1,
 i 81 (mv t80) 3,
 ig 82 (mv t6) 81 true 7,
 ig 83 (.bin .eql t82 (.c (I 0))) 81 true 15,
 i 84 (.pick t81 t83 (.c (.pv (.bool false)))) 31,
 i 85 (mv t84) 63,
 ig 86 (mv t8) 85 true 127,
 ig 87 (.bin .eql t86 (.c (I 0))) 85 true 255,
 i 88 (.pick t85 t87 (.c (.pv (.bool false)))) 511,
 i 89 (mv t88) 1023,
 ig 90 (mv A7) 89 true 2047,
 ig 91 (.bin .eql t90 (.c (I 0))) 89 true 4095,
 i 92 (.pick t89 t91 (.c (.pv (.bool false)))) 8191,
 i 93 (mv t92) 16383,
 ig 94 (mv H6) 93 true 32767,
 ig 95 (.bin .eql t94 (.c (I 0))) 93 true 65535,
 i 96 (.pick t93 t95 (.c (.pv (.bool false)))) 131071,
 i 97 (mv t96) 262143,
 ig 98 (mv P9) 97 true 524287,
 ig 99 (.bin .eql t98 (.c (I 0))) 97 true 1048575,
 i 100 (.pick t97 t99 (.c (.pv (.bool false)))) 2097151,
 i 101 (mv c1z) 4194303,
 ig 102 (mv U9) 101 true 8388607,
 ig 103 (.bin .eql c1B (.c (I 0))) 101 true 16777215,
 i 104 (.pick c1A c1C (.c (.pv (.bool false)))) 33554431,
 i 21 (mv c1D) 67108863] false)
 (.seq (.b9 [i 105 (mv T8) 0,
 i 106 (mv c1E) 1,
 ig 107 (mv t1) 106 true 3,
 ig 108 (.call (.f A8) [c1G]) 106 true 7,
 ig 109 (.bin .eql c1H (.c (I 0))) 106 true 15,
 i 110 (.pick c1F c1I (.c (.pv (.bool false)))) 31,
 i 111 (mv c0h) 63,
 ig 112 (mv t1) 111 true 127,
 ig 113 (.call (.f N3) [c1K]) 111 true 255,
 ig 114 (.bin .eql c1L (.c (I 16))) 111 true 511,
 i 115 (.pick c1J c1M (.c (.pv (.bool false)))) 1023,
 i 116 (mv c1N) 2047,
 ig 117 (mv t3) 116 true 4095,
 ig 118 (.bin .eql c1P (.c (.pv (.str [98,99])))) 116 true 8191,
 i 119 (.pick c1O c1Q (.c (.pv (.bool false)))) 16383,
 i 120 (mv c1R) 32767,
 ig 121 (mv t5) 120 true 65535,
 ig 122 (.q0 c1T) 120 true 131071,
 ig 123 (.bin .eql c1U (.c (I 1))) 120 true 262143,
 i 124 (.pick c1S c1V (.c (.pv (.bool false)))) 524287,
 i 125 (mv c1W) 1048575,
 ig 126 (mv t5) 125 true 2097151,
 ig 127 (.o9 7 c1Y (.c (I 0))) 125 true 4194303,
 ig 128 (.load true 7 c1Z) 125 true 8388607,
 ig 129 (.call (.f M3) [.c (I 0),.c (I 2),.c (I 2)]) 125 true 2097151,
 ig 130 (.eqs false [0,1,0,2,0,0,0] c2a c2b) 125 true 33554431,
 i 131 (.pick c1X c2c (.c (.pv (.bool false)))) 67108863,
 i 132 (mv c2d) 134217727,
 ig 133 (mv t7) 132 true 268435455,
 ig 134 (.q0 c2f) 132 true 536870911,
 ig 135 (.bin .eql c2g (.c (I 3))) 132 true 1073741823,
 i 136 (.pick c2e c2h (.c (.pv (.bool false)))) 2147483647,
 i 137 (mv c2i) 4294967295,
 ig 138 (mv t7) 137 true 8589934591,
 ig 139 (.o9 7 c2k (.c (I 0))) 137 true 17179869183,
 ig 140 (.b0 c3P 1) 137 true 34359738367,
 ig 141 (.load false 1 c3Q) 137 true 68719476735,
 ig 142 (.bin .eql c3R (.c (.pv (.str [97,98,99,100,88,102])))) 137 true 137438953471,
 i 143 (.pick c2j c3S (.c (.pv (.bool false)))) 274877906943,
 i 144 (mv c3T) 549755813887,
 ig 145 (.load true 7 t9) 144 true 1099511627775,
 ig 146 (.call (.f F1) [.c (.pv (.str [97]))]) 144 true 1099511627775,
 ig 147 (.eqs false [0,1,0,2,0,0,0] c3V c3W) 144 true 4398046511103,
 i 148 (.pick c3U c3X (.c (.pv (.bool false)))) 8796093022207,
 i 149 (mv c3Y) 17592186044415,
 ig 150 (mv E3) 149 true 35184372088831,
 i 151 (.pick c4Q c4R (.c (.pv (.bool false)))) 70368744177663,
 i 152 (mv c4S) 140737488355327,
 ig 153 (.b0 C1 2) 152 true 281474976710655,
 ig 154 (.load false 1 c4U) 152 true 562949953421311,
 ig 155 (.bin .eql c4V (.c (I 7))) 152 true 1125899906842623,
 i 156 (.pick c4T c4W (.c (.pv (.bool false)))) 2251799813685247,
 i 157 (mv c4X) 4503599627370495,
 ig 158 (mv M5) 157 true 9007199254740991,
 ig 159 (.bin .eql c4Z (.c (I 30))) 157 true 18014398509481983,
 i 160 (.pick c4Y c5a (.c (.pv (.bool false)))) 36028797018963967,
 i 161 (mv c5b) 72057594037927935,
 ig 162 (mv R5) 161 true 144115188075855871,
 ig 163 (.bin .eql c5d (.c (I 3))) 161 true 288230376151711743,
 i 164 (.pick c5c c5e (.c (.pv (.bool false)))) 576460752303423487,
 i 165 (mv c5f) 1152921504606846975,
 ig 166 (mv t1) 165 true 2305843009213693951,
 ig 167 (.call (.f M3) [.c (I 0),.c (I 0),.c (I 1)]) 165 true 2305843009213693951,
 ig 168 (.call (.f F1) [.c (.pv (.str [97]))]) 165 true 6917529027641081855,
 ig 169 (.call (.f a2i) [c5h,c5i,c5j]) 165 true 18446744073709551615,
 i 170 (.pick c5g c5k (.c (.pv (.bool false)))) 36893488147419103231,
 i 171 (mv c5l) 73786976294838206463,
 ig 172 (mv t1) 171 true 147573952589676412927,
 ig 173 (.build z0 [(0,1,.c (I 7)),(4,1,.c (I 1)),(6,1,.c (I 1))]) 171 true 147573952589676412927,
 ig 174 (.Z5 7 1 z0 [(0,c5o)]) 171 true 442721857769029238783,
 ig 175 (.call (.f a2k) [c5n,c5p]) 171 true 1180591620717411303423,
 ig 176 (.Z5 1 3 [.pv (.bool false)] [(0,.c (.pv (.bool true))),(1,.c (.pv (.bool true))),(2,.c (.pv (.bool false)))]) 171 true 147573952589676412927,
 ig 177 (.call (.f K2) [c5q,c5r]) 171 true 4722366482869645213695,
 i 178 (.pick c5m c5s (.c (.pv (.bool false)))) 9444732965739290427391,
 i 179 (mv c3Z) 18889465931478580854783,
 ig 180 (.build z2 []) 179 true 37778931862957161709567,
 ig 181 (.Z5 7 1 z2 [(0,c5u)]) 179 true 75557863725914323419135,
 ig 182 (.call (.f A8) [c5v]) 179 true 151115727451828646838271,
 ig 183 (.bin .eql c5w (.c (I 210))) 179 true 302231454903657293676543,
 i 184 (.pick c5t c5x (.c (.pv (.bool false)))) 604462909807314587353087,
 i 0 (mv c5y) 1208925819614629174706175] true)
 .ret))))))))))))⟩
def a4z:x4:=⟨1,32,[.tmp 2],
 .seq (.b9 [i 2 (.mv (.c (I 0))) 0] false)
 (.scope
 (.seq (.seq (.b9 [i 9 (mv t0) 0,
 i 10 (.call (.f N3) [t9]) 1,
 i 11 (.bin .gtr A7 (.c (I 20000))) 3] false)
 (.cond C1
 (.seq (.b9 [i 2 (.mv (.c (I 210))) 0] false)
 .ret)
 .skip))
 (.seq (.b9 [i 12 (mv t0) 0,
 i 13 (.build [.emp 7] [(0,1,E3)]) 1,
 i 3 (.alloc [.emp 7]) 0,
 iz (.store 1 t3 H6) 7,
 i 4 (.mv (.c (I 0))) 15] false)
 (.seq .skip
 (.seq (.seq (.b9 [i 14 (mv t0) 0,
 i 15 (.q0 L7) 1,
 i 16 (.mv (.c (I 0))) 0] false)
 (.block 0
 (.loop [3,4,14,15,16]
 (.seq (.b9 [i 17 (.bin .lss M4 P9) 0] false)
 (.seq (.cond M5
 .skip
 (.exit 0))
 (.seq (.block 1
 (.seq (.b9 [i 18 (.o9 7 L7 M4) 0,
 i 19 (.load true 7 P4) 1,
 i 6 (.alloc z2) 0,
 iz (.store 7 t6 R5) 7] false)
 (.seq (.b9 [i 20 (.build [.pv .nilFunc,.pv .nilFunc,.pv .nilFunc] [(0,1,.f I9),(1,1,.f D3),(2,1,.f F5)]) 0,
 i 21 (.mv (.c (I 0))) 0] false)
 (.block 2
 (.loop [3,4,6,14,15,16,20,21]
 (.seq (.b9 [i 22 (.bin .lss T8 (.c (I 3))) 0] false)
 (.seq (.cond Z4
 .skip
 (.exit 2))
 (.seq (.block 3
 (.seq (.b9 [i 23 (.index false 3 1 U9 T8) 0,
 i 8 (mv t23) 1] false)
 (.seq (.b9 [i 24 (mv t8) 0,
 i 25 (.load true 1 t3) 0,
 i 26 (.load true 7 t6) 0,
 i 27 (.call t24 [t25,t26]) 7,
 i 28 (.not t27) 15] false)
 (.cond t28
 (.seq (.b9 [i 4 (.mv (.c (I 210))) 0] false)
 (.exit 0))
 .skip))))
 (.b9 [i 29 (.bin .add T8 (.c (I 1))) 0,
 i 21 (mv t29) 1] false)))))))))
 (.b9 [i 30 (.bin .add M4 (.c (I 1))) 0,
 i 16 (mv t30) 1] false)))))))
 (.seq (.b9 [i 31 (mv t4) 0,
 i 2 (mv t31) 1] false)
 .ret))))))⟩
def a4E:x4:=⟨1,18,[.tmp 2],
 .seq (.b9 [i 2 (.mv (.c (I 0))) 0] false)
 (.seq (.b9 [i 3 (.mv (.c (I 0))) 0] false)
 (.seq (.seq (.b9 [i 6 (mv t0) 0,
 i 7 (.q0 t6) 1,
 i 8 (.mv (.c (I 0))) 0] false)
 (.block 0
 (.loop [3,6,7,8]
 (.seq (.b9 [i 9 (.bin .lss t8 t7) 0] false)
 (.seq (.cond t9
 .skip
 (.exit 0))
 (.seq (.block 1
 (.seq (.b9 [i 10 (.o9 7 t6 t8) 0,
 i 11 (.load true 7 A7) 1,
 i 5 (.alloc z2) 0,
 iz (.store 7 t5 C1) 7] false)
 (.b9 [i 12 (mv t3) 0,
 i 13 (.load true 7 t5) 0,
 i 14 (.call (.f Q9) [H6]) 2,
 i 15 (.bin .add E3 L7) 7,
 i 3 (mv P9) 15] false)))
 (.b9 [i 16 (.bin .add t8 (.c (I 1))) 0,
 i 8 (mv M4) 1] false)))))))
 (.seq (.b9 [i 17 (mv t3) 0,
 i 2 (mv M5) 1] false)
 .ret)))⟩
def a5I:x4:=⟨1,20,[.tmp 2],
 .seq (.b9 [i 1 (.box 7 t0) 0,
 i 2 (.mv (.c (I 0))) 0] false)
 (.seq (.seq (.b9 [i 3 (.b0 t1 0) 0,
 i 4 (.load false 1 t3) 1,
 i 5 (.bin .eql t4 (.c (I 3))) 3] false)
 (.cond t5
 (.seq (.b9 [i 6 (.b0 t1 5) 0,
 i 7 (.load false 1 t6) 1,
 i 8 (.mm false [t7,.c (I 200)]) 3,
 i 9 (.mm true [.c (I 0),t8]) 7,
 i 10 (.bin .mul (.c (I 2)) t9) 15,
 i 11 (.bin .add (.c (I 1)) A7) 31,
 i 2 (mv C1) 63] false)
 .ret)
 .skip))
 (.seq (.b9 [i 12 (.b0 t1 1) 0,
 i 13 (.load false 1 E3) 1,
 i 14 (.N6 H6) 3,
 i 15 (.bin .add (.c (I 1)) L7) 7,
 i 16 (.b0 t1 2) 0,
 i 17 (.load false 1 M4) 16,
 i 18 (.q0 M5) 48,
 i 19 (.bin .add P9 P4) 127,
 i 2 (mv R5) 255] false)
 .ret))⟩
def a2X:x4:=⟨2,51,[.tmp 4],
 .seq (.b9 [i 3 (.box 7 t1) 0,
 i 4 (.mv (.c (.pv (.bool false)))) 0] false)
 (.seq (.seq (.b9 [i 6 (.load true 7 t3) 0,
 i 7 (.call (.f u4) [t6]) 1,
 i 8 (.bin .neq t7 (.c (I 0))) 3] false)
 (.cond t8
 (.seq (.b9 [i 4 (.mv (.c (.pv (.bool false)))) 0] false)
 .ret)
 .skip))
 (.seq (.b9 [i 9 (.b0 t3 0) 0,
 i 10 (.load false 1 t9) 1,
 i 11 (.call (.f E6) [A7]) 3,
 i 5 (mv C1) 7] false)
 (.seq (.seq (.b9 [i 12 (mv t5) 0,
 i 13 (.bin .eql E3 (.c (I 0))) 1] false)
 (.cond H6
 (.seq (.b9 [i 4 (.mv (.c (.pv (.bool true)))) 0] false)
 .ret)
 .skip))
 (.seq (.seq (.b9 [i 14 (.b0 t3 4) 0,
 i 15 (.load false 1 L7) 1,
 i 16 (mv t0) 0,
 i 17 (.q0 M4) 4,
 i 18 (.bin .geq P9 M5) 15,
 i 19 (mv P4) 31,
 ig 20 (mv t0) 19 false 63,
 ig 21 (.b0 t3 4) 19 false 63,
 ig 22 (.load false 1 T8) 19 false 191,
 ig 23 (.o9 7 U9 Z4) 19 false 511,
 ig 24 (.b0 t23 0) 19 false 1023,
 ig 25 (.load false 1 t24) 19 false 2047,
 ig 26 (mv t5) 19 false 63,
 ig 27 (.bin .neq t25 t26) 19 false 8191,
 i 28 (.pick R5 (.c (.pv (.bool true))) t27) 16383] false)
 (.cond t28
 (.seq (.b9 [i 4 (.mv (.c (.pv (.bool false)))) 0] false)
 .ret)
 .skip))
 (.seq (.b9 [i 29 (.b0 t3 0) 0,
 i 30 (.load false 1 t29) 1,
 i 31 (.bin .eql t30 (.c (I 9))) 3,
 i 32 (mv t31) 7,
 ig 33 (.b0 t3 0) 32 false 15,
 ig 34 (.load false 1 t33) 32 false 31,
 ig 35 (.bin .eql t34 (.c (I 11))) 32 false 63,
 i 36 (.pick t32 (.c (.pv (.bool true))) t35) 127,
 i 37 (mv t36) 255,
 ig 38 (.b0 t3 5) 37 false 511,
 ig 39 (.load false 1 t38) 37 false 1023,
 ig 40 (.b0 t3 6) 37 false 511,
 ig 41 (.load false 1 t40) 37 false 2559,
 ig 42 (.bin .add t39 t41) 37 false 8191,
 ig 43 (mv t0) 37 false 511,
 ig 44 (.b0 t3 4) 37 false 511,
 ig 45 (.load false 1 t44) 37 false 33279,
 ig 46 (.o9 7 t43 t45) 37 false 115199,
 ig 47 (.load true 7 t46) 37 false 246271,
 ig 48 (.call (.f J4) [t47]) 37 false 508415,
 ig 49 (.bin .leq t42 t48) 37 false 1048575,
 i 50 (.pick t37 (.c (.pv (.bool true))) t49) 2097151,
 i 4 (mv t50) 4194303] true)
 .ret)))))⟩
def a7i:x4:=⟨2,24,[.tmp 4,.tmp 5,.tmp 6],
 .seq (.b9 [i 3 (.box 7 t1) 0,
 i 4 (.mv (.c (.emp 7))) 0,
 i 5 (.mv (.c (I 0))) 2,
 i 6 (.mv (.c (I 0))) 6] false)
 (.seq (.seq (.b9 [i 7 (mv t0) 0,
 i 8 (.call (.f N3) [t7]) 1,
 i 9 (.load true 7 t3) 0,
 i 10 (.call (.f Q9) [t9]) 7,
 i 11 (.bin .add t8 A7) 15,
 i 12 (.bin .gtr C1 (.c (I 20000))) 31] true)
 (.cond E3
 (.seq (.b9 [i 4 (.mv (.c (.emp 7))) 0,
 i 5 (.mv (.c (I 0))) 1,
 i 6 (.mv (.c (I 27))) 3] false)
 .ret)
 .skip))
 (.seq (.b9 [i 13 (mv t0) 0,
 i 14 (mv t0) 0,
 i 15 (.q0 L7) 2,
 i 16 (mv t0) 0,
 i 17 (.q0 M4) 8,
 i 18 (.slice 7 H6 none (some P9) (some M5)) 31,
 i 19 (.load true 7 t3) 0,
 i 20 (.Z5 7 1 z2 [(0,R5)]) 64,
 i 21 (.append 7 112 P4 U9) 255,
 i 22 (mv t0) 0,
 i 23 (.q0 Z4) 512,
 i 4 (mv T8) 511,
 i 5 (mv t23) 4095,
 i 6 (.mv (.c (I 0))) 8191] true)
 .ret))⟩
def a4H:x4:=⟨2,27,[.tmp 4],
 .seq (.b9 [i 4 (.mv (.c (.pv (.bool false)))) 0] false)
 (.seq (.seq (.b9 [i 6 (mv t0) 0,
 i 7 (.q0 t6) 1,
 i 8 (mv t1) 0,
 i 9 (.q0 t8) 4,
 i 10 (.bin .neq t7 t9) 15] false)
 (.cond A7
 (.seq (.b9 [i 4 (.mv (.c (.pv (.bool false)))) 0] false)
 .ret)
 .skip))
 (.seq (.seq (.b9 [i 5 (.mv (.c (I 0))) 0] false)
 (.block 0
 (.loop [0,1,5]
 (.seq (.seq (.b9 [i 11 (mv t5) 0,
 i 12 (mv t0) 0,
 i 13 (.q0 E3) 2,
 i 14 (.bin .lss C1 H6) 7] false)
 (.cond L7
 .skip
 (.exit 0)))
 (.seq (.block 1
 (.seq (.b9 [i 17 (mv t0) 0,
 i 18 (mv t5) 0,
 i 19 (.o9 7 M5 P4) 3,
 i 20 (.load true 7 R5) 7,
 i 21 (mv t1) 0,
 i 22 (mv t5) 0,
 i 23 (.o9 7 T8 Z4) 48,
 i 24 (.load true 7 t23) 112,
 i 25 (.call (.f L3) [U9,t24]) 255,
 i 26 (.not t25) 511] true)
 (.cond t26
 (.seq (.b9 [i 4 (.mv (.c (.pv (.bool false)))) 0] false)
 .ret)
 .skip)))
 (.b9 [i 15 (mv t5) 0,
 i 16 (.bin .add P9 (.c (I 1))) 1,
 i 5 (mv M4) 3] false))))))
 (.seq (.b9 [i 4 (.mv (.c (.pv (.bool true)))) 0] false)
 .ret)))⟩
def X3:x4:=⟨1,29,[.tmp 2],
 .seq (.b9 [i 1 (.box 3 t0) 0,
 i 2 (.mv (.c (.emp 7))) 0] false)
 (.seq (.b9 [i 5 (.Z5 1 2 [.pv (.str [])] [(0,.c (.pv (.str [97,100,100]))),(1,.c (.pv (.str [112,111,112])))]) 0,
 i 6 (.call (.f A6) [t5]) 1,
 i 3 (mv t6) 3] false)
 (.seq (.seq (.b9 [i 4 (.mv (.c (I 0))) 0] false)
 (.block 0
 (.loop [1,3,4]
 (.seq (.seq (.b9 [i 7 (mv t4) 0,
 i 8 (.b0 t1 0) 0,
 i 9 (.load false 1 t8) 2,
 i 10 (.q0 t9) 6,
 i 11 (.bin .lss t7 A7) 15,
 i 12 (mv C1) 31,
 ig 13 (mv t4) 12 true 63,
 ig 14 (.bin .lss H6 (.c (I 10))) 12 true 127,
 i 15 (.pick E3 L7 (.c (.pv (.bool false)))) 255] false)
 (.cond P9
 .skip
 (.exit 0)))
 (.seq (.block 1
 (.b9 [i 18 (mv t3) 0,
 i 19 (.b0 t1 0) 0,
 i 20 (.load false 1 R5) 2,
 i 21 (mv t4) 0,
 i 22 (.o9 5 U9 T8) 14,
 i 23 (.load true 5 Z4) 30,
 i 24 (mv t3) 0,
 i 25 (.call (.f E1) [t23,t24]) 126,
 i 26 (.Z5 7 1 z2 [(0,t25)]) 254,
 i 27 (.append 7 112 P4 t26) 511,
 i 3 (mv t27) 1023] false))
 (.b9 [i 16 (mv t4) 0,
 i 17 (.bin .add M4 (.c (I 1))) 1,
 i 4 (mv M5) 3] false))))))
 (.seq (.b9 [i 28 (mv t3) 0,
 i 2 (mv t28) 1] false)
 .ret)))⟩
def a4A:x4:=⟨3,58,[.tmp 6],
 .seq (.b9 [i 4 (.box 7 t1) 0,
 i 5 (.box 7 t2) 0,
 i 6 (.mv (.c (.pv (.bool false)))) 0] false)
 (.seq (.seq (.b9 [i 13 (mv t0) 0,
 i 14 (.load true 7 t4) 0,
 i 15 (.call (.f B5) [H6,L7]) 3,
 i 16 (.not P9) 7,
 i 17 (mv M4) 15,
 ig 18 (mv t0) 17 false 31,
 ig 19 (.load true 7 t5) 17 false 31,
 ig 20 (.call (.f B5) [P4,R5]) 17 false 127,
 ig 21 (.not U9) 17 false 255,
 i 22 (.pick M5 (.c (.pv (.bool true))) T8) 511] false)
 (.cond Z4
 (.seq (.b9 [i 6 (.mv (.c (.pv (.bool false)))) 0] false)
 .ret)
 .skip))
 (.seq (.seq (.b9 [i 24 (.load true 7 t4) 0,
 i 25 (.load true 7 t5) 0,
 i 26 (.call (.f S5) [t24,t25]) 3,
 i 23 (mv t26) 7,
 i 27 (.extract t23 0) 15,
 i 28 (.extract t23 1) 15,
 i 7 (mv t27) 31,
 i 8 (mv t28) 127] false)
 (.seq (.b9 [i 29 (mv t8) 0,
 i 30 (.bin .eql t29 (.c (I 0))) 1] false)
 (.cond t30
 (.seq (.b9 [i 31 (mv t7) 0,
 i 32 (.bin .eql t31 (.c (I 0))) 1,
 i 6 (mv t32) 3] false)
 .ret)
 .skip)))
 (.seq (.b9 [i 34 (mv t0) 0,
 i 35 (.load true 7 t4) 0,
 i 36 (.call (.f V3) [t34,t35]) 3,
 i 33 (mv t36) 7,
 i 37 (.extract t33 0) 15,
 i 38 (.extract t33 1) 15,
 i 9 (mv t37) 31,
 i 10 (mv t38) 127] false)
 (.seq (.b9 [i 40 (mv t0) 0,
 i 41 (.load true 7 t5) 0,
 i 42 (.call (.f V3) [t40,t41]) 3,
 i 39 (mv t42) 7,
 i 43 (.extract t39 0) 15,
 i 44 (.extract t39 1) 15,
 i 11 (mv t43) 31,
 i 12 (mv t44) 127] false)
 (.seq (.seq (.b9 [i 45 (mv A7) 0,
 i 46 (mv t45) 1,
 ig 47 (mv E3) 46 true 3,
 i 48 (.pick t46 t47 (.c (.pv (.bool false)))) 7] false)
 (.cond t48
 (.seq (.b9 [i 49 (mv t9) 0,
 i 50 (mv C1) 0,
 i 51 (.bin .eql t49 t50) 3,
 i 6 (mv t51) 7] false)
 .ret)
 .skip))
 (.seq (.b9 [i 52 (.b0 t5 1) 0,
 i 53 (.load false 1 t52) 1,
 i 54 (.b0 t4 1) 3,
 iz (.store 1 t54 t53) 7] false)
 (.seq (.b9 [i 55 (.load true 7 t4) 0,
 i 56 (.load true 7 t5) 0,
 i 57 (.eqs false [0,1,0,2,0,0,0] t55 t56) 3,
 i 6 (mv t57) 7] false)
 .ret)))))))⟩
def U2:x4:=⟨2,26,[.tmp 4],
 .seq (.b9 [i 4 (.mv (.c (.pv (.bool false)))) 0] false)
 (.seq (.seq (.b9 [i 6 (mv t0) 0,
 i 7 (.q0 t6) 1,
 i 8 (mv t1) 0,
 i 9 (.q0 t8) 4,
 i 10 (.bin .neq t7 t9) 15] false)
 (.cond A7
 (.seq (.b9 [i 4 (.mv (.c (.pv (.bool false)))) 0] false)
 .ret)
 .skip))
 (.seq (.seq (.b9 [i 11 (mv t0) 0,
 i 12 (.q0 C1) 1,
 i 13 (.mv (.c (I 0))) 0] false)
 (.block 0
 (.loop [0,1,12,13]
 (.seq (.b9 [i 14 (.bin .lss H6 E3) 0] false)
 (.seq (.cond L7
 .skip
 (.exit 0))
 (.seq (.block 1
 (.seq (.b9 [i 15 (mv H6) 0,
 i 5 (mv P9) 1] false)
 (.seq (.b9 [i 16 (mv t0) 0,
 i 17 (mv t5) 0,
 i 18 (.o9 1 M4 M5) 3,
 i 19 (.load false 1 P4) 7,
 i 20 (mv t1) 0,
 i 21 (mv t5) 0,
 i 22 (.o9 1 U9 T8) 48,
 i 23 (.load false 1 Z4) 112,
 i 24 (.eqb true R5 t23) 255] true)
 (.cond t24
 (.seq (.b9 [i 4 (.mv (.c (.pv (.bool false)))) 0] false)
 .ret)
 .skip))))
 (.b9 [i 25 (.bin .add H6 (.c (I 1))) 0,
 i 13 (mv t25) 1] false)))))))
 (.seq (.b9 [i 4 (.mv (.c (.pv (.bool true)))) 0] false)
 .ret)))⟩
def a4D:x4:=⟨2,24,[.tmp 4],
 .seq (.b9 [i 2 (.box 1 t0) 0,
 i 4 (.mv (.c (.emp 1))) 0] false)
 (.seq (.b9 [i 9 (.load false 1 t2) 0,
 i 10 (.q0 t9) 1,
 i 11 (.b1a 1 1 [.bool false] A7) 3,
 i 5 (.alloc [.emp 1]) 0,
 iz (.store 1 t5 C1) 15] false)
 (.seq (.b9 [i 6 (.alloc [.pv .nilFunc]) 0] false)
 (.seq (.b9 [i 12 (.mkf (.func Q8) [] [t2,t5,t6]) 0,
 iz (.store 1 t6 E3) 1] false)
 (.seq (.seq (.b9 [i 13 (mv t1) 0,
 i 14 (.q0 H6) 1,
 i 15 (.mv (.c (I 0))) 0] false)
 (.block 0
 (.loop [5,6,13,14,15]
 (.seq (.b9 [i 16 (.bin .lss P9 L7) 0] false)
 (.seq (.cond M4
 .skip
 (.exit 0))
 (.seq (.block 1
 (.seq (.b9 [i 17 (.o9 7 H6 P9) 0,
 i 18 (.load true 7 M5) 1,
 i 8 (.alloc z0) 0,
 iz (.store 7 t8 P4) 7] false)
 (.b9 [i 19 (.load false 1 t6) 0,
 i 20 (.load true 7 t8) 0,
 i 21 (.call R5 [U9]) 3] false)))
 (.b9 [i 22 (.bin .add P9 (.c (I 1))) 0,
 i 15 (mv Z4) 1] false)))))))
 (.seq (.b9 [i 23 (.load false 1 t5) 0,
 i 4 (mv t23) 1] false)
 .ret)))))⟩
def a3B:x4:=⟨0,85,[.tmp 0],
 .seq (.b9 [i 0 (.mv (.c (.pv (.bool false)))) 0] false)
 (.seq (.b9 [i 8 (.call (.f n7) [.c (.pv (.str [70]))]) 0,
 i 9 (.call (.f S4) [.c (I 10)]) 1,
 i 10 (.call (.f n7) [.c (.pv (.str [70,111,110,116]))]) 3,
 i 11 (.Z5 7 3 z0 [(0,t8),(1,t9),(2,A7)]) 7,
 i 12 (.call (.f J5) [C1]) 15,
 i 13 (.call (.f k7) [E3,.c (.pv (.str [100,101,102,105,110,101,114,101,115,111,117,114,99,101]))]) 31,
 i 7 (mv H6) 63,
 i 14 (.extract t7 0) 127,
 i 15 (.extract t7 1) 127,
 i 1 (.alloc z1) 0,
 iz (.store 67 t1 L7) 767,
 i 2 (mv P9) 2047] false)
 (.seq (.b9 [i 17 (.load true 67 t1) 0,
 i 18 (.call (.f n7) [.c (.pv (.str [70]))]) 0,
 i 19 (.call (.f p7) [M5,.c (.pv (.str [70,111,110,116])),P4]) 3,
 i 16 (mv R5) 7,
 i 20 (.extract M4 0) 15,
 i 21 (.extract M4 1) 15,
 i 3 (.alloc z0) 0,
 iz (.store 7 t3 U9) 95,
 i 4 (mv T8) 255] true)
 (.seq (.b9 [i 23 (.load true 67 t1) 0,
 i 24 (.call (.f n7) [.c (.pv (.str [70]))]) 0,
 i 25 (.call (.f p7) [t23,.c (.pv (.str [70,111,114,109])),t24]) 3,
 i 22 (mv t25) 7,
 i 26 (.extract Z4 0) 15,
 i 27 (.extract Z4 1) 15,
 i 5 (.alloc z0) 0,
 iz (.store 7 t5 t26) 95,
 i 6 (mv t27) 255] true)
 (.seq (.b9 [i 28 (mv t2) 0,
 i 29 (.bin .eql t28 (.c (I 0))) 1,
 i 30 (mv t29) 3,
 ig 31 (.b0 t1 0) 30 true 7,
 ig 32 (.load false 1 t31) 30 true 15,
 ig 33 (.call (.f S4) [.c (I 10)]) 30 true 7,
 ig 34 (.Z5 7 1 z0 [(0,t33)]) 30 true 39,
 ig 35 (.call (.f s7) [t32,t34]) 30 true 127,
 i 36 (.pick t30 t35 (.c (.pv (.bool false)))) 255,
 i 37 (mv t36) 511,
 ig 38 (mv t4) 37 true 1023,
 ig 39 (.bin .eql t38 (.c (I 0))) 37 true 2047,
 i 40 (.pick t37 t39 (.c (.pv (.bool false)))) 4095,
 i 41 (mv t40) 8191,
 ig 42 (.load true 7 t3) 41 true 16383,
 ig 43 (.call (.f S4) [.c (I 10)]) 41 true 16383,
 ig 44 (.eqs false [0,1,0,2,0,0,0] t42 t43) 41 true 65535,
 i 45 (.pick t41 t44 (.c (.pv (.bool false)))) 131071,
 i 46 (mv t45) 262143,
 ig 47 (mv t6) 46 true 524287,
 ig 48 (.bin .eql t47 (.c (I 40))) 46 true 1048575,
 i 49 (.pick t46 t48 (.c (.pv (.bool false)))) 2097151,
 i 50 (mv t49) 4194303,
 ig 51 (.load true 67 t1) 50 true 8388607,
 ig 52 (.call (.f n7) [.c (.pv (.str [70]))]) 50 true 8388607,
 ig 53 (.call (.f n7) [.c (.pv (.str [70,111,110,116]))]) 50 true 25165823,
 ig 54 (.Z5 7 2 z0 [(0,t52),(1,t53)]) 50 true 58720255,
 ig 55 (.call (.f x2) [t51,t54]) 50 true 134217727,
 ig 56 (.call (.f S4) [.c (I 10)]) 50 true 268435455,
 ig 57 (.Z5 7 1 z0 [(0,t56)]) 50 true 536870911,
 ig 58 (.call (.f J6) [t55,.c (.pv (.str [102,105,110,100,114,101,115,111,117,114,99,101])),t57]) 50 true 1073741823,
 i 59 (.pick t50 t58 (.c (.pv (.bool false)))) 2147483647,
 i 60 (mv t59) 4294967295,
 ig 61 (.load true 67 t1) 60 true 8589934591,
 ig 62 (.call (.f n7) [.c (.pv (.str [70]))]) 60 true 8589934591,
 ig 63 (.call (.f n7) [.c (.pv (.str [70,111,114,109]))]) 60 true 25769803775,
 ig 64 (.Z5 7 2 z0 [(0,t62),(1,t63)]) 60 true 60129542143,
 ig 65 (.call (.f x2) [t61,t64]) 60 true 137438953471,
 ig 66 (.call (.f F4) [.c (.pv (.bool false))]) 60 true 274877906943,
 ig 67 (.Z5 7 1 z0 [(0,t66)]) 60 true 549755813887,
 ig 68 (.call (.f J6) [t65,.c (.pv (.str [114,101,115,111,117,114,99,101,115,116,97,116,117,115])),t67]) 60 true 1099511627775,
 i 69 (.pick t60 t68 (.c (.pv (.bool false)))) 2199023255551,
 i 70 (mv t69) 4398046511103,
 ig 71 (.call (.f n7) [.c (.pv (.str [70]))]) 70 true 8796093022207,
 ig 72 (.call (.f a6y) [.c (I 1)]) 70 true 17592186044415,
 ig 73 (.call (.f n7) [.c (.pv (.str [70,111,110,116]))]) 70 true 35184372088831,
 ig 74 (.Z5 7 3 z0 [(0,t71),(1,t72),(2,t73)]) 70 true 70368744177663,
 ig 75 (.call (.f J5) [t74]) 70 true 140737488355327,
 ig 76 (.call (.f V5) [t75,.c (.pv (.str [100,101,102,105,110,101,114,101,115,111,117,114,99,101])),.c (I 22)]) 70 true 281474976710655,
 i 77 (.pick t70 t76 (.c (.pv (.bool false)))) 562949953421311,
 i 78 (mv t77) 1125899906842623,
 ig 79 (.call (.f n7) [.c (.pv (.str [70]))]) 78 true 2251799813685247,
 ig 80 (.call (.f n7) [.c (.pv (.str [70,111,110,116,115]))]) 78 true 4503599627370495,
 ig 81 (.Z5 7 2 z0 [(0,t79),(1,t80)]) 78 true 9007199254740991,
 ig 82 (.call (.f J5) [t81]) 78 true 18014398509481983,
 ig 83 (.call (.f V5) [t82,.c (.pv (.str [102,105,110,100,114,101,115,111,117,114,99,101])),.c (I 24)]) 78 true 36028797018963967,
 i 84 (.pick t78 t83 (.c (.pv (.bool false)))) 72057594037927935,
 i 0 (mv t84) 144115188075855871] true)
 .ret))))⟩
def a3D:x4:=⟨2,48,[.cell 4 true 67,.tmp 5],
 .seq (.b9 [i 2 (.box 67 t0) 0,
 i 4 (.alloc z1) 0,
 i 5 (.mv (.c (I 0))) 0] false)
 (.seq (.b9 [i 12 (.load true 67 t2) 0,
 i 13 (.build z1 [(0,67,E3)]) 1,
 i 6 (.alloc z1) 0,
 iz (.store 67 t6 H6) 7] false)
 (.seq (.b9 [i 14 (.load true 67 t6) 0,
 i 15 (.mkf (.func i6) [L7] []) 1,
 i 7 (.alloc [.pv .nilFunc]) 0,
 iz (.store 1 t7 P9) 7] false)
 (.seq (.b9 [i 16 (.mkf (.func H3) [] [t7,t2]) 0,
 i 8 (mv M4) 1] false)
 (.seq (.b9 [i 17 (.b0Z) 0,
 i 18 (mv t8) 0,
 i 19 (.load true 67 t6) 0,
 i 20 (.mkf (.func l0) [R5] []) 4,
 i 21 (.call P4 [.c (I 3),U9]) 14,
 iz (.insert M5 (.c (.pv (.str [100,101,102,105,110,101,114,101,115,111,117,114,99,101]))) T8) 31,
 i 22 (mv t8) 0,
 i 23 (.load true 67 t6) 0,
 i 24 (.mkf (.func v5) [t23] []) 128,
 i 25 (.call Z4 [.c (I 2),t24]) 478,
 iz (.insert M5 (.c (.pv (.str [102,105,110,100,114,101,115,111,117,114,99,101]))) t25) 991,
 i 26 (mv t8) 0,
 i 27 (.load true 67 t6) 0,
 i 28 (.mkf (.func r7) [t27] []) 4096,
 i 29 (.call t26 [.c (I 2),t28]) 15326,
 iz (.insert M5 (.c (.pv (.str [117,110,100,101,102,105,110,101,114,101,115,111,117,114,99,101]))) t29) 31711,
 i 30 (mv t8) 0,
 i 31 (.load true 67 t6) 0,
 i 32 (.mkf (.func v7) [t31] []) 131072,
 i 33 (.call t30 [.c (I 2),t32]) 490462,
 iz (.insert M5 (.c (.pv (.str [114,101,115,111,117,114,99,101,115,116,97,116,117,115]))) t33) 1014751,
 i 34 (mv M5) 2097151,
 i 9 (mv t34) 4194303] true)
 (.seq (.b9 [i 36 (mv t9) 0,
 i 37 (mv t1) 0,
 i 38 (.lookup t36 t37 (.pv .nilFunc)) 3,
 i 35 (mv t38) 7,
 i 39 (.extract t35 0) 15,
 i 40 (.extract t35 1) 15,
 i 10 (mv t39) 31,
 i 11 (mv t40) 127] false)
 (.seq (.seq (.b9 [i 41 (mv C1) 0,
 i 42 (.not t41) 1] false)
 (.cond t42
 (.seq (.b9 [i 43 (.load true 67 t2) 0,
 iz (.store 67 t4 t43) 1,
 i 5 (.mv (.c (I 24))) 3] false)
 .ret)
 .skip))
 (.seq (.b9 [i 44 (mv A7) 0,
 i 45 (.call t44 []) 1,
 i 46 (.extract t45 0) 3,
 i 47 (.extract t45 1) 3,
 iz (.store 67 t4 t46) 15,
 i 5 (mv t47) 31] false)
 .ret)))))))⟩
def a0O:x4:=⟨2,52,[.tmp 4],
 .seq (.b9 [i 2 (.box 7 t0) 0,
 i 3 (.box 7 t1) 0,
 i 4 (.mv (.c (.pv (.bool false)))) 0] false)
 (.seq (.b9 [i 5 (.b0 t2 0) 0,
 i 6 (.load false 1 t5) 1,
 i 7 (.b0 t3 0) 0,
 i 8 (.load false 1 t7) 4,
 i 9 (.bin .eql t6 t8) 15,
 i 10 (mv t9) 31,
 ig 11 (.b0 t2 1) 10 true 63,
 ig 12 (.load false 1 C1) 10 true 127,
 ig 13 (.b0 t3 1) 10 true 63,
 ig 14 (.load false 1 H6) 10 true 319,
 ig 15 (.bin .eql E3 L7) 10 true 1023,
 i 16 (.pick A7 P9 (.c (.pv (.bool false)))) 2047,
 i 17 (mv M4) 4095,
 ig 18 (.b0 t2 2) 17 true 8191,
 ig 19 (.load false 1 P4) 17 true 16383,
 ig 20 (.b0 t3 2) 17 true 8191,
 ig 21 (.load false 1 U9) 17 true 40959,
 ig 22 (.call (.f y1) [R5,T8]) 17 true 131071,
 i 23 (.pick M5 Z4 (.c (.pv (.bool false)))) 262143,
 i 24 (mv t23) 524287,
 ig 25 (.b0 t2 3) 24 true 1048575,
 ig 26 (.load false 1 t25) 24 true 2097151,
 ig 27 (.b0 t3 3) 24 true 1048575,
 ig 28 (.load false 1 t27) 24 true 5242879,
 ig 29 (.call (.f y1) [t26,t28]) 24 true 16777215,
 i 30 (.pick t24 t29 (.c (.pv (.bool false)))) 33554431,
 i 31 (mv t30) 67108863,
 ig 32 (.b0 t2 4) 31 true 134217727,
 ig 33 (.load false 1 t32) 31 true 268435455,
 ig 34 (.b0 t3 4) 31 true 134217727,
 ig 35 (.load false 1 t34) 31 true 671088639,
 ig 36 (.call (.f y1) [t33,t35]) 31 true 2147483647,
 i 37 (.pick t31 t36 (.c (.pv (.bool false)))) 4294967295,
 i 38 (mv t37) 8589934591,
 ig 39 (.b0 t2 5) 38 true 17179869183,
 ig 40 (.load false 1 t39) 38 true 34359738367,
 ig 41 (.b0 t3 5) 38 true 17179869183,
 ig 42 (.load false 1 t41) 38 true 85899345919,
 ig 43 (.bin .eql t40 t42) 38 true 274877906943,
 i 44 (.pick t38 t43 (.c (.pv (.bool false)))) 549755813887,
 i 45 (mv t44) 1099511627775,
 ig 46 (.b0 t2 6) 45 true 2199023255551,
 ig 47 (.load false 1 t46) 45 true 4398046511103,
 ig 48 (.b0 t3 6) 45 true 2199023255551,
 ig 49 (.load false 1 t48) 45 true 10995116277759,
 ig 50 (.bin .eql t47 t49) 45 true 35184372088831,
 i 51 (.pick t45 t50 (.c (.pv (.bool false)))) 70368744177663,
 i 4 (mv t51) 140737488355327] false)
 .ret)⟩
def y5:x4:=⟨2,139,[.cell 4 true 7],
 .seq (.b9 [i 2 (.box 5 t0) 0,
 i 4 (.alloc z2) 0] false)
 (.seq (.b9 [i 12 (.b0 t2 4) 0,
 i 13 (.load false 1 E3) 1,
 i 14 (.b0 t2 4) 0,
 i 15 (.load false 1 L7) 4,
 i 16 (.N6 P9) 12,
 i 17 (.mm false [M4,.c (I 40)]) 28,
 i 18 (.a3Q H6 none (some M5)) 63,
 i 5 (mv P4) 127] false)
 (.seq (.seq (.b9 [i 19 (.b0 t2 0) 0,
 i 20 (.load false 1 R5) 1,
 i 21 (.bin .rem U9 (.c (.pv (.int .u8 (5))))) 3] false)
 (.block 0
 (.seq (.seq (.b9 [i 23 (.bin .eql T8 (.c (.pv (.int .u8 (0))))) 0,
 i 22 (mv t23) 1] false)
 (.cond Z4
 .skip
 (.b9 [i 24 (.bin .eql T8 (.c (.pv (.int .u8 (1))))) 0,
 i 22 (mv t24) 1] false)))
 (.cond Z4
 (.seq (.b9 [i 25 (mv t5) 0,
 i 26 (.build z2 [(0,1,.c (I 1)),(1,1,t25)]) 1,
 iz (.store 7 t4 t26) 3] false)
 .ret)
 (.seq (.b9 [i 28 (.bin .eql T8 (.c (.pv (.int .u8 (2))))) 0,
 i 27 (mv t28) 1] false)
 (.cond t27
 (.seq (.b9 [i 29 (.build z2 [(0,1,.c (I 2))]) 0,
 i 6 (.alloc z2) 0,
 iz (.store 7 t6 t29) 3] false)
 (.seq (.seq (.b9 [i 7 (.mv (.c (I 0))) 0] false)
 (.block 1
 (.loop [1,2,4,6,7]
 (.seq (.seq (.b9 [i 30 (mv t7) 0,
 i 31 (.b0 t2 1) 0,
 i 32 (.load false 1 t31) 2,
 i 33 (.bin .rem t32 (.c (.pv (.int .u8 (6))))) 6,
 i 34 (.conv .i64 t33) 14,
 i 35 (.bin .lss t30 t34) 31] false)
 (.cond t35
 .skip
 (.exit 1)))
 (.seq (.block 2
 (.seq (.b9 [i 38 (.b0 t2 2) 0,
 i 39 (.load false 1 t38) 1,
 i 40 (mv t7) 0,
 i 41 (.bin .mul (.c (I 5)) t40) 4,
 i 42 (.conv .u8 t41) 12,
 i 43 (.bin .add t39 t42) 31,
 i 44 (.b0 t2 1) 0,
 i 45 (.load false 1 t44) 64,
 i 46 (mv t7) 0,
 i 47 (.conv .u8 t46) 256,
 i 48 (.bin .add t45 t47) 960,
 i 49 (.b0 t2 2) 0,
 i 50 (.load false 1 t49) 2048,
 i 51 (mv t7) 0,
 i 52 (.bin .add t51 (.c (I 1))) 8192,
 i 53 (.conv .u8 t52) 24576,
 i 54 (.bin .mul t50 t53) 63488,
 i 55 (.b0 t2 3) 0,
 i 56 (.load false 1 t55) 131072,
 i 57 (mv t7) 0,
 i 58 (.bin .add t57 (.c (I 1))) 524288,
 i 59 (.conv .i32 t58) 1572864,
 i 60 (.bin .quo t56 t59) 4063232,
 i 61 (.build [.pv (.int .u8 (0)),.pv (.int .u8 (0)),.pv (.int .u8 (0)),.pv (.int .i32 (0)),.pv (.str [])] [(0,1,t43),(1,1,t48),(2,1,t54),(3,1,t60)]) 8388607,
 i 8 (.alloc [.pv (.int .u8 (0)),.pv (.int .u8 (0)),.pv (.int .u8 (0)),.pv (.int .i32 (0)),.pv (.str [])]) 0,
 iz (.store 5 t8 t61) 33554431] true)
 (.b9 [i 62 (.b0 t6 2) 0,
 i 63 (.load false 1 t62) 1,
 i 64 (.load true 5 t8) 0,
 i 65 (mv t1) 0,
 i 66 (.call (.f i7) [t64,t65]) 12,
 i 67 (.Z5 7 1 z0 [(0,t66)]) 28,
 i 68 (.append 7 64 t63 t67) 63,
 i 69 (.b0 t6 2) 127,
 iz (.store 1 t69 t68) 255] true)))
 (.b9 [i 36 (mv t7) 0,
 i 37 (.bin .add t36 (.c (I 1))) 1,
 i 7 (mv t37) 3] false))))))
 (.seq (.b9 [i 70 (.load true 7 t6) 0,
 iz (.store 7 t4 t70) 1] false)
 .ret)))
 (.seq (.b9 [i 72 (.bin .eql T8 (.c (.pv (.int .u8 (3))))) 0,
 i 71 (mv t72) 1] false)
 (.cond t71
 (.seq (.b9 [i 73 (.b0 t2 1) 0,
 i 74 (.load false 1 t73) 1,
 i 75 (.bin .rem t74 (.c (.pv (.int .u8 (6))))) 3,
 i 76 (.conv .i64 t75) 7,
 i 77 (.call (.f r9) [t76]) 15,
 i 9 (.alloc z2) 0,
 iz (.store 7 t9 t77) 63] false)
 (.seq (.seq (.b9 [i 10 (.mv (.c (I 0))) 0] false)
 (.block 3
 (.loop [1,2,4,9,10]
 (.seq (.seq (.b9 [i 78 (mv A7) 0,
 i 79 (.b0 t2 2) 0,
 i 80 (.load false 1 t79) 2,
 i 81 (.bin .rem t80 (.c (.pv (.int .u8 (4))))) 6,
 i 82 (.conv .i64 t81) 14,
 i 83 (.bin .lss t78 t82) 31,
 i 84 (mv t83) 63,
 ig 85 (mv A7) 84 true 127,
 ig 86 (.b0 t9 5) 84 true 127,
 ig 87 (.load false 1 t86) 84 true 383,
 ig 88 (.bin .lss t85 t87) 84 true 1023,
 i 89 (.pick t84 t88 (.c (.pv (.bool false)))) 2047] false)
 (.cond t89
 .skip
 (.exit 3)))
 (.seq (.block 4
 (.seq (.b9 [i 92 (.b0 t2 2) 0,
 i 93 (.load false 1 t92) 1,
 i 94 (mv A7) 0,
 i 95 (.bin .mul (.c (I 3)) t94) 4,
 i 96 (.conv .u8 t95) 12,
 i 97 (.bin .add t93 t96) 31,
 i 98 (.b0 t2 1) 0,
 i 99 (.load false 1 t98) 64,
 i 100 (mv A7) 0,
 i 101 (.conv .u8 c1z) 256,
 i 102 (.bin .add t99 c1A) 960,
 i 103 (.b0 t2 2) 0,
 i 104 (.load false 1 c1C) 2048,
 i 105 (.b0 t2 3) 0,
 i 106 (.load false 1 c1E) 8192,
 i 107 (.build [.pv (.int .u8 (0)),.pv (.int .u8 (0)),.pv (.int .u8 (0)),.pv (.int .i32 (0)),.pv (.str [])] [(0,1,t97),(1,1,c1B),(2,1,c1D),(3,1,c1F)]) 32767,
 i 11 (.alloc [.pv (.int .u8 (0)),.pv (.int .u8 (0)),.pv (.int .u8 (0)),.pv (.int .i32 (0)),.pv (.str [])]) 0,
 iz (.store 5 C1 c1G) 131071] false)
 (.seq (.b9 [i 108 (.b0 t9 3) 0,
 i 109 (.load false 1 c1H) 1,
 i 110 (mv A7) 0,
 i 111 (.a4p 8 1 (.g 0) c0h) 4,
 i 112 (.load false 1 c1J) 12,
 i 113 (.call (.f A1) [c1K]) 28,
 i 114 (.Z5 7 1 z0 [(0,c1L)]) 60,
 i 115 (.append 7 64 c1I c1M) 127,
 i 116 (.b0 t9 3) 255,
 iz (.store 1 c1O c1N) 511] true)
 (.b9 [i 117 (.b0 t9 4) 0,
 i 118 (.load false 1 c1P) 1,
 i 119 (.load true 5 C1) 0,
 i 120 (mv t1) 0,
 i 121 (.call (.f i7) [c1R,c1S]) 12,
 i 122 (.Z5 7 1 z0 [(0,c1T)]) 28,
 i 123 (.append 7 64 c1Q c1U) 63,
 i 124 (.b0 t9 4) 127,
 iz (.store 1 c1W c1V) 255] true))))
 (.b9 [i 90 (mv A7) 0,
 i 91 (.bin .add t90 (.c (I 1))) 1,
 i 10 (mv t91) 3] false))))))
 (.seq (.b9 [i 125 (.load true 7 t9) 0,
 iz (.store 7 t4 c1X) 1] false)
 .ret)))
 .skip))))))))
 (.seq (.b9 [i 126 (mv t5) 0,
 i 127 (.b0 t2 1) 0,
 i 128 (.load false 1 c1Z) 2,
 i 129 (.conv .i64 c2a) 6,
 i 130 (mv t5) 0,
 i 131 (.N6 c2c) 16,
 i 132 (.bin .add c2d (.c (I 1))) 48,
 i 133 (.bin .rem c2b c2e) 126,
 i 134 (.b0 t2 2) 0,
 i 135 (.load false 1 c2g) 256,
 i 136 (.bin .rem c2h (.c (.pv (.int .u8 (2))))) 768,
 i 137 (.conv .i64 c2i) 1792,
 i 138 (.build z2 [(0,1,.c (I 4)),(1,1,c1Y),(6,1,c2f),(5,1,c2j)]) 4095,
 iz (.store 7 t4 c2k) 8191] true)
 .ret)))⟩
def a1L:x4:=⟨4,47,[.tmp 8,.tmp 9],
 .seq (.b9 [i 5 (.box 7 t1) 0,
 i 8 (.mv (.c (.emp 7))) 0,
 i 9 (.mv (.c (I 0))) 2] false)
 (.seq (.b9 [i 14 (mv t0) 0,
 i 15 (.load true 7 t5) 0,
 i 16 (.Z5 1 1 [I 0] [(0,.c (I 6))]) 0,
 i 17 (.call (.f x9) [L7,P9,M4]) 7,
 i 13 (mv M5) 15,
 i 18 (.extract H6 0) 31,
 i 19 (.extract H6 1) 31,
 i 10 (.alloc [.emp 7,I 0,.pv (.bool false),I 0,.pv (.str []),I 0,I 0,I 0]) 0,
 iz (.store 8 A7 P4) 191,
 i 11 (mv R5) 511] false)
 (.seq (.seq (.b9 [i 20 (mv C1) 0,
 i 21 (.bin .eql U9 (.c (I 0))) 1] false)
 (.cond T8
 (.b9 [i 22 (.load true 8 A7) 0,
 i 23 (mv t2) 0,
 i 24 (mv t3) 0,
 i 25 (.N6 t24) 4,
 i 26 (.call (.f S1) [Z4,t23,t25]) 15,
 i 11 (mv t26) 31] false)
 .skip))
 (.seq (.seq (.b9 [i 27 (mv C1) 0,
 i 28 (.bin .neq t27 (.c (I 0))) 1] false)
 (.cond t28
 (.seq (.b9 [i 29 (mv C1) 0,
 i 8 (.mv (.c (.emp 7))) 0,
 i 9 (mv t29) 3] false)
 .ret)
 .skip))
 (.seq (.b9 [i 30 (.load true 8 A7) 0,
 i 31 (.call (.f u2) [t30]) 1,
 i 12 (.alloc z2) 0,
 iz (.store 7 E3 t31) 7] false)
 (.seq (.b9 [i 32 (.b0 E3 1) 0,
 i 33 (.load false 1 t32) 1,
 i 34 (.s2b t33) 3,
 i 35 (.b0 t5 5) 0,
 i 36 (.load false 1 t35) 8,
 i 37 (mv t2) 0,
 i 38 (.bin .add t36 t37) 56,
 i 39 (mv t3) 0,
 i 40 (.s2b t39) 128,
 i 41 (.call (.f I8) [t34,t38,t40]) 511,
 i 42 (.b2s t41) 1023,
 i 43 (.b0 E3 1) 2047,
 iz (.store 1 t43 t42) 4095] false)
 (.seq (.b9 [i 44 (.load true 8 A7) 0,
 i 45 (.load true 7 E3) 0,
 i 46 (.call (.f w7) [t44,t45]) 3,
 i 8 (mv t46) 7,
 i 9 (.mv (.c (I 0))) 15] false)
 .ret))))))⟩
def a1Y:x4:=⟨2,29,[.tmp 4,.tmp 5],
 .seq (.b9 [i 3 (.box 7 t1) 0,
 i 4 (.mv (.c (.pv (.str [])))) 0,
 i 5 (.mv (.c (I 0))) 2] false)
 (.seq (.b9 [i 9 (mv t0) 0,
 i 10 (.load true 7 t3) 0,
 i 11 (.Z5 1 1 [I 0] [(0,.c (I 6))]) 0,
 i 12 (.call (.f x9) [t9,A7,C1]) 7,
 i 8 (mv E3) 15,
 i 13 (.extract t8 0) 31,
 i 14 (.extract t8 1) 31,
 i 6 (.alloc [.emp 7,I 0,.pv (.bool false),I 0,.pv (.str []),I 0,I 0,I 0]) 0,
 iz (.store 8 t6 H6) 191,
 i 7 (mv L7) 511] false)
 (.seq (.seq (.b9 [i 15 (mv t7) 0,
 i 16 (.bin .neq P9 (.c (I 0))) 1] false)
 (.cond M4
 (.seq (.b9 [i 17 (mv t7) 0,
 i 4 (.mv (.c (.pv (.str [])))) 0,
 i 5 (mv M5) 3] false)
 .ret)
 .skip))
 (.seq (.b9 [i 18 (.load true 8 t6) 0,
 i 19 (.call (.f u2) [P4]) 1,
 i 20 (.field false 1 1 R5) 3,
 i 21 (.b0 t3 5) 0,
 i 22 (.load false 1 T8) 8,
 i 23 (.b0 t3 5) 0,
 i 24 (.load false 1 t23) 32,
 i 25 (.b0 t3 6) 0,
 i 26 (.load false 1 t25) 128,
 i 27 (.bin .add t24 t26) 480,
 i 28 (.a3Q U9 (some Z4) (some t27)) 1023,
 i 4 (mv t28) 2047,
 i 5 (.mv (.c (I 0))) 4095] true)
 .ret)))⟩
def a4B:x4:=⟨2,34,[.tmp 4,.tmp 5],
 .seq (.b9 [i 3 (.box 7 t1) 0,
 i 4 (.mv (.c (.emp 7))) 0,
 i 5 (.mv (.c (I 0))) 2] false)
 (.seq (.b9 [i 9 (mv t0) 0,
 i 10 (.load true 7 t3) 0,
 i 11 (.Z5 1 2 [I 0] [(0,.c (I 7)),(1,.c (I 8))]) 0,
 i 12 (.call (.f x9) [t9,A7,C1]) 7,
 i 8 (mv E3) 15,
 i 13 (.extract t8 0) 31,
 i 14 (.extract t8 1) 31,
 i 6 (.alloc [.emp 7,I 0,.pv (.bool false),I 0,.pv (.str []),I 0,I 0,I 0]) 0,
 iz (.store 8 t6 H6) 191,
 i 7 (mv L7) 511] false)
 (.seq (.seq (.b9 [i 15 (mv t7) 0,
 i 16 (.bin .neq P9 (.c (I 0))) 1] false)
 (.cond M4
 (.seq (.b9 [i 17 (mv t7) 0,
 i 4 (.mv (.c (.emp 7))) 0,
 i 5 (mv M5) 3] false)
 .ret)
 .skip))
 (.seq (.b9 [i 18 (.load true 8 t6) 0,
 i 19 (.call (.f u2) [P4]) 1,
 i 20 (.field false 2 1 R5) 3,
 i 21 (.b0 t3 5) 0,
 i 22 (.load false 1 T8) 8,
 i 23 (.b0 t3 5) 0,
 i 24 (.load false 1 t23) 32,
 i 25 (.b0 t3 6) 0,
 i 26 (.load false 1 t25) 128,
 i 27 (.bin .add t24 t26) 480,
 i 28 (.b0 t3 5) 0,
 i 29 (.load false 1 t28) 1024,
 i 30 (.b0 t3 6) 0,
 i 31 (.load false 1 t30) 4096,
 i 32 (.bin .add t29 t31) 15360,
 i 33 (.slice 7 U9 (some Z4) (some t27) (some t32)) 32767,
 i 4 (mv t33) 65535,
 i 5 (.mv (.c (I 0))) 131071] true)
 .ret)))⟩
def a4C:x4:=⟨2,34,[.cell 4 true 7,.tmp 5],
 .seq (.b9 [i 3 (.box 7 t1) 0,
 i 4 (.alloc z0) 0,
 i 5 (.mv (.c (I 0))) 0] false)
 (.seq (.seq (.b9 [i 8 (mv t0) 0,
 i 9 (.load true 7 t3) 0,
 i 10 (.call (.f B5) [t8,t9]) 3,
 i 11 (.not A7) 7] false)
 (.cond C1
 (.seq (.b9 [i 12 (.build z0 []) 0,
 iz (.store 7 t4 E3) 1,
 i 5 (.mv (.c (I 2))) 3] false)
 .ret)
 .skip))
 (.seq (.seq (.b9 [i 13 (.b0 t3 0) 0,
 i 14 (.load false 1 H6) 1,
 i 15 (.bin .neq L7 (.c (I 6))) 3] false)
 (.cond P9
 (.seq (.b9 [i 16 (.load true 7 t3) 0,
 i 17 (.call (.f N4) [M4]) 1,
 i 18 (.extract M5 0) 3,
 i 19 (.extract M5 1) 3,
 iz (.store 7 t4 P4) 15,
 i 5 (mv R5) 31] false)
 .ret)
 .skip))
 (.seq (.b9 [i 21 (mv t0) 0,
 i 22 (.load true 7 t3) 0,
 i 23 (.call (.f I6) [T8,Z4]) 3,
 i 20 (mv t23) 7,
 i 24 (.extract U9 0) 15,
 i 25 (.extract U9 1) 15,
 i 6 (mv t24) 31,
 i 7 (mv t25) 127] false)
 (.seq (.seq (.b9 [i 26 (mv t6) 0,
 i 27 (.N6 t26) 1,
 i 28 (.bin .gtr t27 (.c (I 100))) 3] false)
 (.cond t28
 (.seq (.b9 [i 29 (.build z0 []) 0,
 iz (.store 7 t4 t29) 1,
 i 5 (.mv (.c (I 23))) 3] false)
 .ret)
 .skip))
 (.seq (.b9 [i 30 (mv t6) 0,
 i 31 (.call (.f O3) [t30,.c (.pv (.bool false))]) 1,
 i 32 (.extract t31 0) 3,
 i 33 (.extract t31 1) 3,
 iz (.store 7 t4 t32) 15,
 i 5 (mv t33) 31] false)
 .ret)))))⟩
def a2W:x4:=⟨3,45,[.cell 6 true 7,.tmp 7,.tmp 8],
 .seq (.b9 [i 4 (.box 7 t1) 0,
 i 5 (.box 7 t2) 0,
 i 6 (.alloc z0) 0,
 i 7 (.mv (.c (.pv (.bool false)))) 0,
 i 8 (.mv (.c (I 0))) 8] false)
 (.seq (.b9 [i 14 (mv t0) 0,
 i 15 (.load true 7 t4) 0,
 i 16 (.Z5 1 1 [I 0] [(0,.c (I 9))]) 0,
 i 17 (.call (.f x9) [L7,P9,M4]) 7,
 i 13 (mv M5) 15,
 i 18 (.extract H6 0) 31,
 i 19 (.extract H6 1) 31,
 i 9 (.alloc [.emp 7,I 0,.pv (.bool false),I 0,.pv (.str []),I 0,I 0,I 0]) 0,
 iz (.store 8 t9 P4) 191,
 i 10 (mv R5) 511] false)
 (.seq (.seq (.b9 [i 20 (mv A7) 0,
 i 21 (.bin .neq U9 (.c (I 0))) 1] false)
 (.cond T8
 (.seq (.b9 [i 22 (.build z0 []) 0,
 i 23 (mv A7) 0,
 iz (.store 7 t6 Z4) 1,
 i 7 (.mv (.c (.pv (.bool false)))) 5,
 i 8 (mv t23) 15] false)
 .ret)
 .skip))
 (.seq (.b9 [i 24 (.load true 8 t9) 0,
 i 25 (.call (.f u2) [t24]) 1,
 i 11 (.alloc z2) 0,
 iz (.store 7 C1 t25) 7] false)
 (.seq (.b9 [i 26 (.b0 C1 3) 0,
 i 27 (.load false 1 t26) 1,
 i 28 (.load true 7 t5) 0,
 i 29 (.call (.f v8) [t27,t28]) 7,
 i 12 (mv t29) 15] false)
 (.seq (.seq (.b9 [i 30 (mv E3) 0,
 i 31 (.bin .lss t30 (.c (I 0))) 1,
 i 32 (mv t31) 3,
 ig 33 (mv E3) 32 false 7,
 ig 34 (.b0 C1 4) 32 false 7,
 ig 35 (.load false 1 t34) 32 false 23,
 ig 36 (.q0 t35) 32 false 55,
 ig 37 (.bin .geq t33 t36) 32 false 127,
 i 38 (.pick t32 (.c (.pv (.bool true))) t37) 255] false)
 (.cond t38
 (.seq (.b9 [i 39 (.build z0 []) 0,
 iz (.store 7 t6 t39) 1,
 i 7 (.mv (.c (.pv (.bool false)))) 3,
 i 8 (.mv (.c (I 0))) 7] false)
 .ret)
 .skip))
 (.seq (.b9 [i 40 (.b0 C1 4) 0,
 i 41 (.load false 1 t40) 1,
 i 42 (mv E3) 0,
 i 43 (.o9 7 t41 t42) 7,
 i 44 (.load true 7 t43) 15,
 iz (.store 7 t6 t44) 31,
 i 7 (.mv (.c (.pv (.bool true)))) 63,
 i 8 (.mv (.c (I 0))) 127] false)
 .ret))))))⟩
def a1Z:x4:=⟨4,84,[.tmp 8,.tmp 9],
 .seq (.b9 [i 5 (.box 7 t1) 0,
 i 6 (.box 7 t2) 0,
 i 7 (.box 7 t3) 0,
 i 8 (.mv (.c (.emp 7))) 0,
 i 9 (.mv (.c (I 0))) 8] false)
 (.seq (.b9 [i 15 (mv t0) 0,
 i 16 (.load true 7 t5) 0,
 i 17 (.Z5 1 1 [I 0] [(0,.c (I 9))]) 0,
 i 18 (.call (.f x9) [P9,M4,M5]) 7,
 i 14 (mv P4) 15,
 i 19 (.extract L7 0) 31,
 i 20 (.extract L7 1) 31,
 i 10 (.alloc [.emp 7,I 0,.pv (.bool false),I 0,.pv (.str []),I 0,I 0,I 0]) 0,
 iz (.store 8 A7 R5) 191,
 i 11 (mv U9) 511] false)
 (.seq (.seq (.b9 [i 21 (mv C1) 0,
 i 22 (.bin .neq T8 (.c (I 0))) 1] false)
 (.cond Z4
 (.seq (.b9 [i 23 (mv C1) 0,
 i 8 (.mv (.c (.emp 7))) 0,
 i 9 (mv t23) 3] false)
 .ret)
 .skip))
 (.seq (.b9 [i 24 (.load true 8 A7) 0,
 i 25 (.call (.f u2) [t24]) 1,
 i 12 (.alloc z2) 0,
 iz (.store 7 E3 t25) 7] false)
 (.seq (.seq (.b9 [i 26 (.b0 E3 3) 0,
 i 27 (.load false 1 t26) 1,
 i 28 (.load true 7 t6) 0,
 i 29 (.call (.f v8) [t27,t28]) 7,
 i 13 (mv t29) 15] false)
 (.seq (.b9 [i 30 (mv H6) 0,
 i 31 (.bin .geq t30 (.c (I 0))) 1,
 i 32 (mv t31) 3,
 ig 33 (mv H6) 32 true 7,
 ig 34 (.b0 E3 4) 32 true 7,
 ig 35 (.load false 1 t34) 32 true 23,
 ig 36 (.q0 t35) 32 true 55,
 ig 37 (.bin .lss t33 t36) 32 true 127,
 i 38 (.pick t32 t37 (.c (.pv (.bool false)))) 255] false)
 (.cond t38
 (.seq (.b9 [i 39 (.b0 E3 4) 0,
 i 40 (.load false 1 t39) 1,
 i 41 (mv H6) 0,
 i 42 (.load true 7 t7) 0,
 i 43 (.Z5 7 1 z0 [(0,t42)]) 8,
 i 44 (.call (.f B2) [t40,t41,t43]) 31,
 i 45 (.b0 E3 4) 63,
 iz (.store 1 t45 t44) 127] false)
 (.seq (.b9 [i 46 (.load true 8 A7) 0,
 i 47 (.load true 7 E3) 0,
 i 48 (.call (.f w7) [t46,t47]) 3,
 i 8 (mv t48) 7,
 i 9 (.mv (.c (I 0))) 15] false)
 .ret))
 .skip)))
 (.seq (.seq (.b9 [i 49 (.b0 E3 3) 0,
 i 50 (.load false 1 t49) 1,
 i 51 (.q0 t50) 3,
 i 52 (.b0 E3 5) 0,
 i 53 (.load false 1 t52) 8,
 i 54 (.bin .geq t51 t53) 31] false)
 (.cond t54
 (.seq (.b9 [i 8 (.mv (.c (.emp 7))) 0,
 i 9 (.mv (.c (I 30))) 1] false)
 .ret)
 .skip))
 (.seq (.b9 [i 55 (.b0 E3 3) 0,
 i 56 (.load false 1 t55) 1,
 i 57 (.b0 E3 3) 0,
 i 58 (.load false 1 t57) 4,
 i 59 (.q0 t58) 12,
 i 60 (.b0 E3 3) 0,
 i 61 (.load false 1 t60) 32,
 i 62 (.q0 t61) 96,
 i 63 (.slice 7 t56 none (some t59) (some t62)) 255,
 i 64 (.load true 7 t6) 0,
 i 65 (.Z5 7 1 z0 [(0,t64)]) 512,
 i 66 (.append 7 64 t63 t65) 2047,
 i 67 (.b0 E3 3) 4095,
 iz (.store 1 t67 t66) 8191] true)
 (.seq (.b9 [i 68 (.b0 E3 4) 0,
 i 69 (.load false 1 t68) 1,
 i 70 (.b0 E3 4) 0,
 i 71 (.load false 1 t70) 4,
 i 72 (.q0 t71) 12,
 i 73 (.b0 E3 4) 0,
 i 74 (.load false 1 t73) 32,
 i 75 (.q0 t74) 96,
 i 76 (.slice 7 t69 none (some t72) (some t75)) 255,
 i 77 (.load true 7 t7) 0,
 i 78 (.Z5 7 1 z0 [(0,t77)]) 512,
 i 79 (.append 7 64 t76 t78) 2047,
 i 80 (.b0 E3 4) 4095,
 iz (.store 1 t80 t79) 8191] true)
 (.seq (.b9 [i 81 (.load true 8 A7) 0,
 i 82 (.load true 7 E3) 0,
 i 83 (.call (.f w7) [t81,t82]) 3,
 i 8 (mv t83) 7,
 i 9 (.mv (.c (I 0))) 15] false)
 .ret))))))))⟩
def a3w:x4:=⟨3,57,[.tmp 6,.tmp 7],
 .seq (.b9 [i 4 (.box 7 t1) 0,
 i 5 (.box 7 t2) 0,
 i 6 (.mv (.c (.emp 7))) 0,
 i 7 (.mv (.c (I 0))) 4] false)
 (.seq (.b9 [i 13 (mv t0) 0,
 i 14 (.load true 7 t4) 0,
 i 15 (.Z5 1 1 [I 0] [(0,.c (I 9))]) 0,
 i 16 (.call (.f x9) [H6,L7,P9]) 7,
 i 12 (mv M4) 15,
 i 17 (.extract E3 0) 31,
 i 18 (.extract E3 1) 31,
 i 8 (.alloc [.emp 7,I 0,.pv (.bool false),I 0,.pv (.str []),I 0,I 0,I 0]) 0,
 iz (.store 8 t8 M5) 191,
 i 9 (mv P4) 511] false)
 (.seq (.seq (.b9 [i 19 (mv t9) 0,
 i 20 (.bin .neq R5 (.c (I 0))) 1] false)
 (.cond U9
 (.seq (.b9 [i 21 (mv t9) 0,
 i 6 (.mv (.c (.emp 7))) 0,
 i 7 (mv T8) 3] false)
 .ret)
 .skip))
 (.seq (.b9 [i 22 (.load true 8 t8) 0,
 i 23 (.call (.f u2) [Z4]) 1,
 i 10 (.alloc z2) 0,
 iz (.store 7 A7 t23) 7] false)
 (.seq (.b9 [i 24 (.b0 A7 3) 0,
 i 25 (.load false 1 t24) 1,
 i 26 (.load true 7 t5) 0,
 i 27 (.call (.f v8) [t25,t26]) 7,
 i 11 (mv t27) 15] false)
 (.seq (.seq (.b9 [i 28 (mv C1) 0,
 i 29 (.bin .lss t28 (.c (I 0))) 1,
 i 30 (mv t29) 3,
 ig 31 (mv C1) 30 false 7,
 ig 32 (.b0 A7 4) 30 false 7,
 ig 33 (.load false 1 t32) 30 false 23,
 ig 34 (.q0 t33) 30 false 55,
 ig 35 (.bin .geq t31 t34) 30 false 127,
 i 36 (.pick t30 (.c (.pv (.bool true))) t35) 255] false)
 (.cond t36
 (.seq (.b9 [i 37 (mv t0) 0,
 i 6 (mv t37) 1,
 i 7 (.mv (.c (I 0))) 3] false)
 .ret)
 .skip))
 (.seq (.b9 [i 38 (.b0 A7 3) 0,
 i 39 (.load false 1 t38) 1,
 i 40 (.call (.f x7) [t39]) 3,
 i 41 (mv C1) 0,
 i 42 (mv C1) 0,
 i 43 (.bin .add t42 (.c (I 1))) 16,
 i 44 (.call (.f B4) [t40,t41,t43]) 63,
 i 45 (.b0 A7 4) 0,
 i 46 (.load false 1 t45) 128,
 i 47 (.call (.f x7) [t46]) 511,
 i 48 (mv C1) 0,
 i 49 (mv C1) 0,
 i 50 (.bin .add t49 (.c (I 1))) 2048,
 i 51 (.call (.f B4) [t47,t48,t50]) 8191,
 i 52 (.b0 A7 3) 511,
 iz (.store 1 t52 t44) 32767,
 i 53 (.b0 A7 4) 65535,
 iz (.store 1 t53 t51) 131071] true)
 (.seq (.b9 [i 54 (.load true 8 t8) 0,
 i 55 (.load true 7 A7) 0,
 i 56 (.call (.f w7) [t54,t55]) 3,
 i 6 (mv t56) 7,
 i 7 (.mv (.c (I 0))) 15] false)
 .ret)))))))⟩
def a3C:x4:=⟨2,90,[.tmp 4],
 .seq (.b9 [i 2 (.box 57 t0) 0,
 i 3 (.box 57 t1) 0,
 i 4 (.mv (.c (.pv (.bool false)))) 0] false)
 (.seq (.b9 [i 5 (.b0 t2 0) 0,
 i 6 (.load true 6 t5) 1,
 i 7 (.b0 t3 0) 0,
 i 8 (.load true 6 t7) 4,
 i 9 (.eqs false [0,0,0,0,0,0] t6 t8) 15,
 i 10 (mv t9) 31,
 ig 11 (.b0 t2 6) 10 true 63,
 ig 12 (.load false 1 C1) 10 true 127,
 ig 13 (.q0 E3) 10 true 255,
 ig 14 (.b0 t3 6) 10 true 63,
 ig 15 (.load false 1 L7) 10 true 575,
 ig 16 (.q0 P9) 10 true 1599,
 ig 17 (.bin .eql H6 M4) 10 true 4095,
 i 18 (.pick A7 M5 (.c (.pv (.bool false)))) 8191,
 i 19 (mv P4) 16383,
 ig 20 (.b0 t2 7) 19 true 32767,
 ig 21 (.b0 U9 0) 19 true 65535,
 ig 22 (.load false 1 T8) 19 true 131071,
 ig 23 (.b0 t3 7) 19 true 32767,
 ig 24 (.b0 t23 0) 19 true 294911,
 ig 25 (.load false 1 t24) 19 true 819199,
 ig 26 (.bin .eql Z4 t25) 19 true 2097151,
 i 27 (.pick R5 t26 (.c (.pv (.bool false)))) 4194303,
 i 28 (mv t27) 8388607,
 ig 29 (.b0 t2 7) 28 true 16777215,
 ig 30 (.b0 t29 1) 28 true 33554431,
 ig 31 (.load true 4 t30) 28 true 67108863,
 ig 32 (.b0 t3 7) 28 true 16777215,
 ig 33 (.b0 t32 1) 28 true 150994943,
 ig 34 (.load true 4 t33) 28 true 419430399,
 ig 35 (.eqs false [0,0,0,0] t31 t34) 28 true 1073741823,
 i 36 (.pick t28 t35 (.c (.pv (.bool false)))) 2147483647,
 i 37 (mv t36) 4294967295,
 ig 38 (.b0 t2 34) 37 true 8589934591,
 ig 39 (.b0 t38 0) 37 true 17179869183,
 ig 40 (.load false 1 t39) 37 true 34359738367,
 ig 41 (.b0 t3 34) 37 true 8589934591,
 ig 42 (.b0 t41 0) 37 true 77309411327,
 ig 43 (.load false 1 t42) 37 true 214748364799,
 ig 44 (.bin .eql t40 t43) 37 true 549755813887,
 i 45 (.pick t37 t44 (.c (.pv (.bool false)))) 1099511627775,
 i 46 (mv t45) 2199023255551,
 ig 47 (.b0 t2 40) 46 true 4398046511103,
 ig 48 (.load false 1 t47) 46 true 8796093022207,
 ig 49 (.b0 t3 40) 46 true 4398046511103,
 ig 50 (.load false 1 t49) 46 true 21990232555519,
 ig 51 (.bin .eql t48 t50) 46 true 70368744177663,
 i 52 (.pick t46 t51 (.c (.pv (.bool false)))) 140737488355327,
 i 53 (mv t52) 281474976710655,
 ig 54 (.b0 t2 41) 53 true 562949953421311,
 ig 55 (.load false 1 t54) 53 true 1125899906842623,
 ig 56 (.q0 t55) 53 true 2251799813685247,
 ig 57 (.b0 t3 41) 53 true 562949953421311,
 ig 58 (.load false 1 t57) 53 true 5066549580791807,
 ig 59 (.q0 t58) 53 true 14073748835532799,
 ig 60 (.bin .eql t56 t59) 53 true 36028797018963967,
 i 61 (.pick t53 t60 (.c (.pv (.bool false)))) 72057594037927935,
 i 62 (mv t61) 144115188075855871,
 ig 63 (.b0 t2 42) 62 true 288230376151711743,
 ig 64 (.load true 7 t63) 62 true 576460752303423487,
 ig 65 (.b0 t3 42) 62 true 288230376151711743,
 ig 66 (.load true 7 t65) 62 true 1441151880758558719,
 ig 67 (.eqs false [0,1,0,2,0,0,0] t64 t66) 62 true 4611686018427387903,
 i 68 (.pick t62 t67 (.c (.pv (.bool false)))) 9223372036854775807,
 i 69 (mv t68) 18446744073709551615,
 ig 70 (.b0 t2 49) 69 true 36893488147419103231,
 ig 71 (.load true 6 t70) 69 true 73786976294838206463,
 ig 72 (.b0 t3 49) 69 true 36893488147419103231,
 ig 73 (.load true 6 t72) 69 true 184467440737095516159,
 ig 74 (.eqs false [0,0,0,0,0,0] t71 t73) 69 true 590295810358705651711,
 i 75 (.pick t69 t74 (.c (.pv (.bool false)))) 1180591620717411303423,
 i 76 (mv t75) 2361183241434822606847,
 ig 77 (.b0 t2 55) 76 true 4722366482869645213695,
 ig 78 (.load false 1 t77) 76 true 9444732965739290427391,
 ig 79 (.b0 t3 55) 76 true 4722366482869645213695,
 ig 80 (.load false 1 t79) 76 true 23611832414348226068479,
 ig 81 (.bin .eql t78 t80) 76 true 75557863725914323419135,
 i 82 (.pick t76 t81 (.c (.pv (.bool false)))) 151115727451828646838271,
 i 83 (mv t82) 302231454903657293676543,
 ig 84 (.b0 t2 56) 83 true 604462909807314587353087,
 ig 85 (.load false 1 t84) 83 true 1208925819614629174706175,
 ig 86 (.b0 t3 56) 83 true 604462909807314587353087,
 ig 87 (.load false 1 t86) 83 true 3022314549036572936765439,
 ig 88 (.bin .eql t85 t87) 83 true 9671406556917033397649407,
 i 89 (.pick t83 t88 (.c (.pv (.bool false)))) 19342813113834066795298815,
 i 4 (mv t89) 38685626227668133590597631] false)
 .ret)⟩
def X5:x4:=⟨1,8,[.tmp 2],
 .seq (.b9 [i 2 (.mv (.c (.emp 7))) 0] false)
 (.seq (.seq (.b9 [i 3 (mv t0) 0,
 i 4 (.a9w false t3) 1] false)
 (.cond t4
 (.seq (.b9 [i 2 (.mv (.c (.emp 7))) 0] false)
 .ret)
 .skip))
 (.seq (.b9 [i 5 (.Z5 7 0 z0 []) 0,
 i 6 (mv t0) 0,
 i 7 (.append 7 64 t5 t6) 3,
 i 2 (mv t7) 7] false)
 .ret))⟩
def X6:x4:=⟨2,26,[.tmp 4],
 .seq (.b9 [i 4 (.mv (.c (.pv (.bool false)))) 0] false)
 (.seq (.seq (.b9 [i 6 (mv t0) 0,
 i 7 (.q0 t6) 1,
 i 8 (mv t1) 0,
 i 9 (.q0 t8) 4,
 i 10 (.bin .neq t7 t9) 15] false)
 (.cond A7
 (.seq (.b9 [i 4 (.mv (.c (.pv (.bool false)))) 0] false)
 .ret)
 .skip))
 (.seq (.seq (.b9 [i 11 (mv t0) 0,
 i 12 (.q0 C1) 1,
 i 13 (.mv (.c (I 0))) 0] false)
 (.block 0
 (.loop [0,1,12,13]
 (.seq (.b9 [i 14 (.bin .lss H6 E3) 0] false)
 (.seq (.cond L7
 .skip
 (.exit 0))
 (.seq (.block 1
 (.seq (.b9 [i 15 (mv H6) 0,
 i 5 (mv P9) 1] false)
 (.seq (.b9 [i 16 (mv t0) 0,
 i 17 (mv t5) 0,
 i 18 (.o9 7 M4 M5) 3,
 i 19 (.load true 7 P4) 7,
 i 20 (mv t1) 0,
 i 21 (mv t5) 0,
 i 22 (.o9 7 U9 T8) 48,
 i 23 (.load true 7 Z4) 112,
 i 24 (.eqs true [0,1,0,2,0,0,0] R5 t23) 255] true)
 (.cond t24
 (.seq (.b9 [i 4 (.mv (.c (.pv (.bool false)))) 0] false)
 .ret)
 .skip))))
 (.b9 [i 25 (.bin .add H6 (.c (I 1))) 0,
 i 13 (mv t25) 1] false)))))))
 (.seq (.b9 [i 4 (.mv (.c (.pv (.bool true)))) 0] false)
 .ret)))⟩
def U1:x4:=⟨1,63,[.cell 2 true 67],
 .seq (.b9 [i 1 (.box 3 t0) 0,
 i 2 (.alloc z1) 0] false)
 (.seq (.b9 [i 6 (.load true 3 t1) 0,
 i 7 (.call (.f F7) [t6]) 1,
 i 8 (.build z0 [(0,1,.c (I 9))]) 0,
 i 9 (.build z0 [(0,1,.c (I 9)),(4,1,.c (I 1))]) 0,
 i 10 (.Z5 7 2 z0 [(0,t8),(1,t9)]) 12,
 i 11 (.build z1 [(2,1,t7),(1,1,A7),(66,1,.c (I 1))]) 31,
 i 3 (.alloc z1) 0,
 iz (.store 67 t3 C1) 127] false)
 (.seq (.seq (.b9 [i 4 (.mv (.c (I 0))) 0] false)
 (.block 0
 (.loop [1,2,3,4]
 (.seq (.seq (.b9 [i 12 (mv t4) 0,
 i 13 (.b0 t1 1) 0,
 i 14 (.load false 1 H6) 2,
 i 15 (.q0 L7) 6,
 i 16 (.bin .lss E3 P9) 15,
 i 17 (mv M4) 31,
 ig 18 (mv t4) 17 true 63,
 ig 19 (.bin .lss P4 (.c (I 20))) 17 true 127,
 i 20 (.pick M5 R5 (.c (.pv (.bool false)))) 255] false)
 (.cond U9
 .skip
 (.exit 0)))
 (.seq (.block 1
 (.b9 [i 23 (.b0 t3 0) 0,
 i 24 (.load false 1 t23) 1,
 i 25 (.b0 t1 1) 0,
 i 26 (.load false 1 t25) 4,
 i 27 (mv t4) 0,
 i 28 (.o9 5 t26 t27) 28,
 i 29 (.load true 5 t28) 60,
 i 30 (.b0 t3 2) 0,
 i 31 (.load false 1 t30) 128,
 i 32 (.call (.f i7) [t29,t31]) 508,
 i 33 (.Z5 7 1 z0 [(0,t32)]) 1020,
 i 34 (.append 7 64 t24 t33) 2047,
 i 35 (.b0 t3 0) 4095,
 iz (.store 1 t35 t34) 8191] true))
 (.b9 [i 21 (mv t4) 0,
 i 22 (.bin .add T8 (.c (I 1))) 1,
 i 4 (mv Z4) 3] false))))))
 (.seq (.seq (.b9 [i 5 (.mv (.c (I 0))) 0] false)
 (.block 2
 (.loop [1,2,3,5]
 (.seq (.seq (.b9 [i 36 (mv t5) 0,
 i 37 (.b0 t1 2) 0,
 i 38 (.load false 1 t37) 2,
 i 39 (.q0 t38) 6,
 i 40 (.bin .lss t36 t39) 15,
 i 41 (mv t40) 31,
 ig 42 (mv t5) 41 true 63,
 ig 43 (.bin .lss t42 (.c (I 4))) 41 true 127,
 i 44 (.pick t41 t43 (.c (.pv (.bool false)))) 255] false)
 (.cond t44
 .skip
 (.exit 2)))
 (.seq (.block 3
 (.b9 [i 47 (.b0 t3 1) 0,
 i 48 (.load false 1 t47) 1,
 i 49 (.b0 t3 2) 0,
 i 50 (.load false 1 t49) 4,
 i 51 (.b0 t1 2) 0,
 i 52 (.load false 1 t51) 16,
 i 53 (mv t5) 0,
 i 54 (.o9 1 t52 t53) 112,
 i 55 (.load false 1 t54) 240,
 i 56 (.conv .i64 t55) 496,
 i 57 (.call (.f J0) [t50,.c (I 3),t56]) 1020,
 i 58 (.build z0 [(0,1,.c (I 9)),(4,1,t57)]) 2044,
 i 59 (.Z5 7 1 z0 [(0,t58)]) 4092,
 i 60 (.append 7 64 t48 t59) 8191,
 i 61 (.b0 t3 1) 16383,
 iz (.store 1 t61 t60) 32767] true))
 (.b9 [i 45 (mv t5) 0,
 i 46 (.bin .add t45 (.c (I 1))) 1,
 i 5 (mv t46) 3] false))))))
 (.seq (.b9 [i 62 (.load true 67 t3) 0,
 iz (.store 67 t2 t62) 1] false)
 .ret))))⟩
def M6:x4:=⟨0,2,[.tmp 0],
 .seq (.b9 [i 0 (.mv (.c (.emp 1))) 0] false)
 (.seq (.b9 [i 1 (.Z5 1 5 [.pv (.str [])] [(0,.c (.pv (.str [70,111,110,116]))),(1,.c (.pv (.str [80,97,116,116,101,114,110]))),(2,.c (.pv (.str [69,110,99,111,100,105,110,103]))),(3,.c (.pv (.str [70,111,114,109]))),(4,.c (.pv (.str [71,101,110,101,114,105,99])))]) 0,
 i 0 (mv t1) 1] false)
 .ret)⟩
def a2a:x4:=⟨2,8,[.cell 4 true 67],
 .seq (.b9 [i 2 (.box 67 t0) 0,
 i 4 (.alloc z1) 0] false)
 (.seq (.b9 [i 5 (mv t1) 0,
 i 6 (.b0 t2 0) 1,
 iz (.store 1 t6 t5) 3] false)
 (.seq (.b9 [i 7 (.load true 67 t2) 0,
 iz (.store 67 t4 t7) 1] false)
 .ret))⟩
def a4G:x4:=⟨1,5,[.cell 2 true 7],
 .seq (.b9 [i 2 (.alloc z0) 0] false)
 (.seq (.b9 [i 3 (mv t0) 0,
 i 4 (.build z0 [(0,1,.c (I 5)),(3,1,t3)]) 1,
 iz (.store 7 t2 t4) 3] false)
 .ret)⟩
def a1M:x4:=⟨3,30,[.cell 6 true 7,.tmp 7],
 .seq (.b9 [i 3 (.box 67 t0) 0,
 i 5 (.box 7 t2) 0,
 i 6 (.alloc z0) 0,
 i 7 (.mv (.c (I 0))) 0] false)
 (.seq (.b9 [i 11 (.load true 67 t3) 0,
 i 12 (.build z1 [(0,67,C1)]) 1,
 i 8 (.alloc z1) 0,
 iz (.store 67 t8 E3) 7] false)
 (.seq (.b9 [i 14 (.load true 67 t8) 0,
 i 15 (mv t1) 0,
 i 16 (.build z0 [(0,1,.c (I 5)),(3,1,P9)]) 2,
 i 17 (.call (.f q8) [L7,M4]) 7,
 i 13 (mv M5) 15,
 i 18 (.extract H6 0) 31,
 i 19 (.extract H6 1) 31,
 i 9 (.alloc z0) 0,
 iz (.store 7 t9 P4) 191,
 i 10 (mv R5) 511] false)
 (.seq (.seq (.b9 [i 20 (mv A7) 0,
 i 21 (.bin .neq U9 (.c (I 0))) 1] false)
 (.cond T8
 (.seq (.b9 [i 22 (.build z0 []) 0,
 i 23 (mv A7) 0,
 iz (.store 7 t6 Z4) 1,
 i 7 (mv t23) 7] false)
 .ret)
 .skip))
 (.seq (.b9 [i 24 (.load true 67 t8) 0,
 i 25 (.load true 7 t9) 0,
 i 26 (.load true 7 t5) 0,
 i 27 (.call (.f u6) [t24,t25,t26]) 7,
 i 28 (.extract t27 0) 15,
 i 29 (.extract t27 1) 15,
 iz (.store 7 t6 t28) 63,
 i 7 (mv t29) 127] false)
 .ret))))⟩
def a7j:x4:=⟨3,23,[.tmp 6],
 .seq (.b9 [i 3 (.box 67 t0) 0,
 i 6 (.mv (.c (.pv (.bool false)))) 0] false)
 (.seq (.b9 [i 10 (.load true 67 t3) 0,
 i 11 (mv t1) 0,
 i 12 (.call (.f k7) [A7,C1]) 3,
 i 9 (mv E3) 7,
 i 13 (.extract t9 0) 15,
 i 14 (.extract t9 1) 15,
 i 7 (.alloc z1) 0,
 iz (.store 67 t7 H6) 95,
 i 8 (mv L7) 255] false)
 (.seq (.b9 [i 15 (mv t8) 0,
 i 16 (.bin .eql P9 (.c (I 0))) 1,
 i 17 (mv M4) 3,
 ig 18 (.b0 t7 0) 17 true 7,
 ig 19 (.load false 1 P4) 17 true 15,
 ig 20 (mv t2) 17 true 7,
 ig 21 (.call (.f s7) [R5,U9]) 17 true 63,
 i 22 (.pick M5 T8 (.c (.pv (.bool false)))) 127,
 i 6 (mv Z4) 255] false)
 .ret))⟩
def a3A:x4:=⟨1,6,[.cell 2 true 7],
 .seq (.b9 [i 2 (.alloc z0) 0] false)
 (.seq (.seq (.b9 [i 3 (mv t0) 0] false)
 (.cond t3
 (.seq (.b9 [i 4 (.build z0 [(0,1,.c (I 2)),(2,1,.c (I 1))]) 0,
 iz (.store 7 t2 t4) 1] false)
 .ret)
 .skip))
 (.seq (.b9 [i 5 (.build z0 [(0,1,.c (I 2))]) 0,
 iz (.store 7 t2 t5) 1] false)
 .ret))⟩
def R9:x4:=⟨4,76,[.cell 8 true 7],
 .seq (.b9 [i 7 (.box 5 t3) 0,
 i 8 (.alloc z0) 0] false)
 (.seq (.b9 [i 11 (mv t0) 0,
 i 12 (mv t2) 0,
 i 13 (.b0 t7 1) 0,
 i 14 (.load false 1 H6) 4,
 i 15 (.conv .i64 L7) 12,
 i 16 (.call (.f J0) [C1,E3,P9]) 31,
 i 9 (mv M4) 63] false)
 (.seq (.seq (.b9 [i 17 (mv t9) 0,
 i 18 (.bin .lss M5 (.c (I 0))) 1] false)
 (.cond P4
 (.seq (.b9 [i 19 (.b0 t7 1) 0,
 i 20 (.load false 1 R5) 1,
 i 21 (.conv .i64 U9) 3,
 i 22 (.build z0 [(0,1,.c (I 3)),(2,1,T8)]) 7,
 iz (.store 7 t8 Z4) 15] false)
 .ret)
 .skip))
 (.seq (.b9 [i 23 (mv t1) 0,
 i 24 (.b0 t7 3) 0,
 i 25 (.load false 1 t24) 2,
 i 26 (.bin .rem t25 (.c (.pv (.int .i32 (5))))) 6,
 i 27 (.bin .eql t26 (.c (.pv (.int .i32 (3))))) 14,
 i 28 (mv t9) 0,
 i 29 (.build z0 [(0,1,t23),(1,1,t27),(4,1,t28)]) 63,
 i 10 (.alloc z0) 0,
 iz (.store 7 A7 t29) 255] false)
 (.seq (.seq (.b9 [i 30 (mv t2) 0,
 i 31 (.bin .eql t30 (.c (I 3))) 1,
 i 32 (mv t31) 3,
 ig 33 (mv t2) 32 false 7,
 ig 34 (.bin .eql t33 (.c (I 4))) 32 false 15,
 i 35 (.pick t32 (.c (.pv (.bool true))) t34) 31] false)
 (.cond t35
 (.seq (.b9 [i 36 (.load true 7 A7) 0,
 iz (.store 7 t8 t36) 1] false)
 .ret)
 .skip))
 (.seq (.b9 [i 37 (mv t0) 0,
 i 38 (mv t9) 0,
 i 39 (.o9 7 t37 t38) 3,
 i 40 (.b0 t39 1) 7,
 i 41 (.load false 1 t40) 15,
 i 42 (.N6 t41) 31,
 i 43 (mv t0) 0,
 i 44 (mv t9) 0,
 i 45 (.o9 7 t43 t44) 192,
 i 46 (.b0 t45 2) 448,
 i 47 (.load false 1 t46) 960,
 i 48 (.q0 t47) 1984,
 i 49 (.bin .add t42 t48) 4095,
 i 50 (.b0 A7 6) 8191,
 iz (.store 1 t50 t49) 16383] true)
 (.seq (.seq (.b9 [i 51 (.b0 t7 2) 0,
 i 52 (.load false 1 t51) 1,
 i 53 (.bin .rem t52 (.c (.pv (.int .u8 (3))))) 3,
 i 54 (.bin .eql t53 (.c (.pv (.int .u8 (2))))) 7] false)
 (.cond t54
 (.seq (.b9 [i 55 (.b0 t7 2) 0,
 i 56 (.load false 1 t55) 1,
 i 57 (.conv .i64 t56) 3,
 i 58 (.b0 A7 6) 0,
 i 59 (.load false 1 t58) 8,
 i 60 (.bin .add t59 (.c (I 1))) 24,
 i 61 (.bin .rem t57 t60) 63,
 i 62 (.b0 A7 5) 127,
 iz (.store 1 t62 t61) 255] false)
 (.b9 [i 63 (.b0 t7 2) 0,
 i 64 (.load false 1 t63) 1,
 i 65 (.conv .i64 t64) 3,
 i 66 (.bin .quo t65 (.c (I 3))) 7,
 i 67 (.b0 A7 6) 0,
 i 68 (.load false 1 t67) 16,
 i 69 (.b0 A7 5) 0,
 i 70 (.load false 1 t69) 64,
 i 71 (.bin .sub t68 t70) 240,
 i 72 (.bin .add t71 (.c (I 1))) 496,
 i 73 (.bin .rem t66 t72) 1023,
 i 74 (.b0 A7 6) 2047,
 iz (.store 1 t74 t73) 4095] false))
 .skip))
 (.seq (.b9 [i 75 (.load true 7 A7) 0,
 iz (.store 7 t8 t75) 1] false)
 .ret)))))))⟩
def a0Q:x4:=⟨2,26,[.tmp 4],
 .seq (.b9 [i 4 (.mv (.c (.pv (.bool false)))) 0] false)
 (.seq (.seq (.b9 [i 6 (mv t0) 0,
 i 7 (.q0 t6) 1,
 i 8 (mv t1) 0,
 i 9 (.q0 t8) 4,
 i 10 (.bin .neq t7 t9) 15] false)
 (.cond A7
 (.seq (.b9 [i 4 (.mv (.c (.pv (.bool false)))) 0] false)
 .ret)
 .skip))
 (.seq (.seq (.b9 [i 5 (.mv (.c (I 0))) 0] false)
 (.block 0
 (.loop [0,1,5]
 (.seq (.seq (.b9 [i 11 (mv t5) 0,
 i 12 (mv t0) 0,
 i 13 (.q0 E3) 2,
 i 14 (.bin .lss C1 H6) 7] false)
 (.cond L7
 .skip
 (.exit 0)))
 (.seq (.block 1
 (.seq (.b9 [i 17 (mv t0) 0,
 i 18 (mv t5) 0,
 i 19 (.o9 7 M5 P4) 3,
 i 20 (.load true 7 R5) 7,
 i 21 (mv t1) 0,
 i 22 (mv t5) 0,
 i 23 (.o9 7 T8 Z4) 48,
 i 24 (.load true 7 t23) 112,
 i 25 (.eqs true [0,1,0,2,0,0,0] U9 t24) 255] true)
 (.cond t25
 (.seq (.b9 [i 4 (.mv (.c (.pv (.bool false)))) 0] false)
 .ret)
 .skip)))
 (.b9 [i 15 (mv t5) 0,
 i 16 (.bin .add P9 (.c (I 1))) 1,
 i 5 (mv M4) 3] false))))))
 (.seq (.b9 [i 4 (.mv (.c (.pv (.bool true)))) 0] false)
 .ret)))⟩
def a2y:x4:=⟨0,13,[.tmp 0],
 .seq (.b9 [i 0 (.mv (.c (.emp 7))) 0] false)
 (.seq (.b9 [i 1 (.build z2 [(0,1,.c (I 1)),(1,1,.c (.pv (.str [97,98,99,100,101,102])))]) 0,
 i 2 (.build z0 [(0,1,.c (I 3)),(2,1,.c (I 1))]) 0,
 i 3 (.build z0 [(0,1,.c (I 6)),(5,1,.c (I 2)),(6,1,.c (I 2))]) 0,
 i 4 (.build z0 []) 0,
 i 5 (.Z5 7 3 z0 [(0,t2),(1,t3),(2,t4)]) 14,
 i 6 (.build z2 [(0,1,.c (I 2)),(2,1,t5)]) 30,
 i 7 (.build z0 [(0,1,.c (I 5)),(3,1,.c (.pv (.str [97])))]) 0,
 i 8 (.Z5 7 1 z0 [(0,t7)]) 64,
 i 9 (.build z0 [(0,1,.c (I 3)),(2,1,.c (I 7))]) 0,
 i 10 (.Z5 7 1 z0 [(0,t9)]) 256,
 i 11 (.build z2 [(0,1,.c (I 3)),(5,1,.c (I 2)),(3,1,t8),(4,1,A7)]) 960,
 i 12 (.Z5 7 3 z2 [(0,t1),(1,t6),(2,C1)]) 2047,
 i 0 (mv E3) 4095] false)
 .ret)⟩
def a5J:x4:=⟨3,11,[.cell 6 true 7],
 .seq (.b9 [i 6 (.alloc z0) 0] false)
 (.seq (.b9 [i 7 (mv t0) 0,
 i 8 (mv t1) 0,
 i 9 (mv t2) 0,
 i 10 (.build z0 [(0,1,.c (I 6)),(4,1,t7),(5,1,t8),(6,1,t9)]) 7,
 iz (.store 7 t6 A7) 15] false)
 .ret)⟩
def a4F:x4:=⟨1,5,[.cell 2 true 7],
 .seq (.b9 [i 2 (.alloc z0) 0] false)
 (.seq (.b9 [i 3 (mv t0) 0,
 i 4 (.build z0 [(0,1,.c (I 5)),(3,1,t3)]) 1,
 iz (.store 7 t2 t4) 3] false)
 .ret)⟩
def a0a:x4:=⟨2,74,[.tmp 4],
 .seq (.b9 [i 2 (.box 1 t0) 0,
 i 3 (.box 7 t1) 0,
 i 4 (.mv (.c (.pv (.bool false)))) 0] false)
 (.seq (.b9 [i 7 (.b0 t3 2) 0,
 i 8 (.load false 1 t7) 1,
 i 9 (.q0 t8) 3,
 i 10 (.b0 t3 3) 0,
 i 11 (.load false 1 A7) 8,
 i 12 (.q0 C1) 24,
 i 13 (.b0 t3 4) 0,
 i 14 (.load false 1 H6) 64,
 i 15 (.q0 L7) 192,
 i 16 (.bin .add E3 P9) 504,
 i 5 (mv t9) 7,
 i 6 (mv M4) 2047] false)
 (.seq (.seq (.b9 [i 17 (.b0 t3 0) 0,
 i 18 (.load false 1 M5) 1] false)
 (.block 0
 (.seq (.b9 [i 20 (.bin .eql P4 (.c (I 1))) 0,
 i 19 (mv U9) 1] false)
 (.cond R5
 (.seq (.b9 [i 21 (mv t5) 0,
 i 22 (mv t6) 0,
 i 23 (.bin .add T8 Z4) 3,
 i 24 (.bin .eql t23 (.c (I 0))) 7,
 i 25 (mv t24) 15,
 ig 26 (.b0 t3 5) 25 true 31,
 ig 27 (.load false 1 t26) 25 true 63,
 ig 28 (.bin .eql t27 (.c (I 0))) 25 true 127,
 i 29 (.pick t25 t28 (.c (.pv (.bool false)))) 255,
 i 30 (mv t29) 511,
 ig 31 (.b0 t3 6) 30 true 1023,
 ig 32 (.load false 1 t31) 30 true 2047,
 ig 33 (.bin .eql t32 (.c (I 0))) 30 true 4095,
 i 34 (.pick t30 t33 (.c (.pv (.bool false)))) 8191,
 i 4 (mv t34) 16383] false)
 .ret)
 (.seq (.b9 [i 36 (.bin .eql P4 (.c (I 2))) 0,
 i 35 (mv t36) 1] false)
 (.cond t35
 (.seq (.b9 [i 37 (.b0 t3 1) 0,
 i 38 (.load false 1 t37) 1,
 i 39 (.bin .eql t38 (.c (.pv (.str [])))) 3,
 i 40 (mv t39) 7,
 ig 41 (mv t6) 40 true 15,
 ig 42 (.bin .eql t41 (.c (I 0))) 40 true 31,
 i 43 (.pick t40 t42 (.c (.pv (.bool false)))) 63,
 i 44 (mv t43) 127,
 ig 45 (.b0 t3 5) 44 true 255,
 ig 46 (.load false 1 t45) 44 true 511,
 ig 47 (.bin .eql t46 (.c (I 0))) 44 true 1023,
 i 48 (.pick t44 t47 (.c (.pv (.bool false)))) 2047,
 i 49 (mv t48) 4095,
 ig 50 (.b0 t3 6) 49 true 8191,
 ig 51 (.load false 1 t50) 49 true 16383,
 ig 52 (.bin .eql t51 (.c (I 0))) 49 true 32767,
 i 53 (.pick t49 t52 (.c (.pv (.bool false)))) 65535,
 i 4 (mv t53) 131071] false)
 .ret)
 (.seq (.b9 [i 55 (.bin .eql P4 (.c (I 3))) 0,
 i 54 (mv t55) 1] false)
 (.cond t54
 (.seq (.b9 [i 56 (.b0 t3 1) 0,
 i 57 (.load false 1 t56) 1,
 i 58 (.bin .eql t57 (.c (.pv (.str [])))) 3,
 i 59 (mv t58) 7,
 ig 60 (mv t5) 59 true 15,
 ig 61 (.bin .eql t60 (.c (I 0))) 59 true 31,
 i 62 (.pick t59 t61 (.c (.pv (.bool false)))) 63,
 i 63 (mv t62) 127,
 ig 64 (.b0 t3 6) 63 true 255,
 ig 65 (.load false 1 t64) 63 true 511,
 ig 66 (.bin .eql t65 (.c (I 0))) 63 true 1023,
 i 67 (.pick t63 t66 (.c (.pv (.bool false)))) 2047,
 i 4 (mv t67) 4095] false)
 .ret)
 (.seq (.b9 [i 69 (.bin .eql P4 (.c (I 4))) 0,
 i 68 (mv t69) 1] false)
 (.cond t68
 (.seq (.b9 [i 70 (mv t5) 0,
 i 71 (mv t6) 0,
 i 72 (.bin .add t70 t71) 3,
 i 73 (.bin .eql t72 (.c (I 0))) 7,
 i 4 (mv t73) 15] false)
 .ret)
 .skip))))))))))
 (.seq (.b9 [i 4 (.mv (.c (.pv (.bool false)))) 0] false)
 .ret)))⟩
def Q3:x4:=⟨2,73,[.tmp 4],
 .seq (.b9 [i 2 (.box 1 t0) 0,
 i 3 (.box 7 t1) 0,
 i 4 (.mv (.c (.pv (.bool false)))) 0] false)
 (.seq (.seq (.b9 [i 5 (.b0 t3 0) 0,
 i 6 (.load false 1 t5) 1] false)
 (.block 0
 (.seq (.b9 [i 8 (.bin .eql t6 (.c (I 1))) 0,
 i 7 (mv t8) 1] false)
 (.cond t7
 (.seq (.b9 [i 9 (.b0 t3 1) 0,
 i 10 (.load false 1 t9) 1,
 i 11 (.N6 A7) 3,
 i 12 (.bin .leq C1 (.c (I 1000))) 7,
 i 4 (mv E3) 15] false)
 .ret)
 (.seq (.b9 [i 14 (.bin .eql t6 (.c (I 2))) 0,
 i 13 (mv L7) 1] false)
 (.cond H6
 (.seq (.b9 [i 15 (.b0 t3 2) 0,
 i 16 (.load false 1 P9) 1,
 i 17 (.q0 M4) 3,
 i 18 (.bin .leq M5 (.c (I 1000))) 7,
 i 4 (mv P4) 15] false)
 .ret)
 (.seq (.b9 [i 20 (.bin .eql t6 (.c (I 3))) 0,
 i 19 (mv U9) 1] false)
 (.cond R5
 (.seq (.b9 [i 21 (.b0 t3 5) 0,
 i 22 (.load false 1 T8) 1,
 i 23 (.bin .geq Z4 (.c (I 0))) 3,
 i 24 (mv t23) 7,
 ig 25 (.b0 t3 5) 24 true 15,
 ig 26 (.load false 1 t25) 24 true 31,
 ig 27 (.bin .leq t26 (.c (I 200))) 24 true 63,
 i 28 (.pick t24 t27 (.c (.pv (.bool false)))) 127,
 i 29 (mv t28) 255,
 ig 30 (.b0 t3 3) 29 true 511,
 ig 31 (.load false 1 t30) 29 true 1023,
 ig 32 (.q0 t31) 29 true 2047,
 ig 33 (.b0 t3 4) 29 true 511,
 ig 34 (.load false 1 t33) 29 true 4607,
 ig 35 (.q0 t34) 29 true 12799,
 ig 36 (.bin .eql t32 t35) 29 true 32767,
 i 37 (.pick t29 t36 (.c (.pv (.bool false)))) 65535,
 i 38 (mv t37) 131071,
 ig 39 (.b0 t3 3) 38 true 262143,
 ig 40 (.load false 1 t39) 38 true 524287,
 ig 41 (.q0 t40) 38 true 1048575,
 ig 42 (.b0 t3 5) 38 true 262143,
 ig 43 (.load false 1 t42) 38 true 2359295,
 ig 44 (.bin .leq t41 t43) 38 true 8388607,
 i 45 (.pick t38 t44 (.c (.pv (.bool false)))) 16777215,
 i 4 (mv t45) 33554431] false)
 .ret)
 .skip))))))))
 (.seq (.b9 [i 46 (.b0 t3 1) 0,
 i 47 (.load false 1 t46) 1,
 i 48 (.N6 t47) 3,
 i 49 (.bin .leq t48 (.c (I 4000))) 7,
 i 50 (mv t49) 15,
 ig 51 (.b0 t3 6) 50 true 31,
 ig 52 (.load false 1 t51) 50 true 63,
 ig 53 (.bin .geq t52 (.c (I 0))) 50 true 127,
 i 54 (.pick t50 t53 (.c (.pv (.bool false)))) 255,
 i 55 (mv t54) 511,
 ig 56 (.b0 t3 6) 55 true 1023,
 ig 57 (.load false 1 t56) 55 true 2047,
 ig 58 (.b0 t3 1) 55 true 1023,
 ig 59 (.load false 1 t58) 55 true 5119,
 ig 60 (.N6 t59) 55 true 13311,
 ig 61 (.bin .leq t57 t60) 55 true 32767,
 i 62 (.pick t55 t61 (.c (.pv (.bool false)))) 65535,
 i 63 (mv t62) 131071,
 ig 64 (.b0 t3 5) 63 true 262143,
 ig 65 (.load false 1 t64) 63 true 524287,
 ig 66 (.bin .eql t65 (.c (I 0))) 63 true 1048575,
 ig 67 (mv t66) 63 true 2097151,
 ig 68 (.b0 t3 5) 67 false 4194303,
 ig 69 (.load false 1 t68) 67 false 8388607,
 ig 70 (.bin .eql t69 (.c (I 1))) 67 false 16777215,
 ig 71 (.pick t67 (.c (.pv (.bool true))) t70) 63 true 33554431,
 i 72 (.pick t63 t71 (.c (.pv (.bool false)))) 67108863,
 i 4 (mv t72) 134217727] false)
 .ret))⟩
def X1:x4:=⟨2,47,[.cell 4 false 1],
 .seq (.b9 [i 2 (.box 1 t0) 0,
 i 3 (.box 7 t1) 0,
 i 4 (.alloc [.pv (.bool false)]) 0] false)
 (.seq (.seq (.b9 [i 10 (.load true 7 t3) 0,
 i 11 (.call (.f L0) [A7]) 1] false)
 (.block 0
 (.rng C1 [12]
 (.b9 [i 5 (.alloc z0) 0,
 iz (.store 7 t5 E3) 1] false)
 (.block 1
 (.seq (.b9 [i 13 (.b0 t2 0) 0,
 i 14 (.load false 1 H6) 1,
 i 15 (.load true 7 t5) 0,
 i 16 (.call (.f B5) [L7,P9]) 7,
 i 17 (.not M4) 15] false)
 (.cond M5
 (.seq (.b9 [iz (.store 1 t4 (.c (.pv (.bool false)))) 0] false)
 .ret)
 .skip))))))
 (.seq (.seq (.b9 [i 18 (.b0 t3 3) 0,
 i 19 (.load false 1 P4) 1,
 i 20 (.q0 R5) 3,
 i 21 (.mv (.c (I 0))) 0] false)
 (.block 2
 (.loop [3,4,19,20,21]
 (.seq (.b9 [i 22 (.bin .lss T8 U9) 0] false)
 (.seq (.cond Z4
 .skip
 (.exit 2))
 (.seq (.block 3
 (.seq (.b9 [i 23 (mv T8) 0,
 i 24 (.o9 7 R5 T8) 0,
 i 25 (.load true 7 t24) 2,
 i 7 (.alloc z0) 0,
 i 6 (mv t23) 15,
 iz (.store 7 t7 t25) 31] false)
 (.seq (.b9 [i 27 (.load true 7 t7) 0,
 i 28 (.call (.f N4) [t27]) 1,
 i 26 (mv t28) 3,
 i 29 (.extract t26 0) 7,
 i 30 (.extract t26 1) 7,
 i 8 (.alloc z0) 0,
 iz (.store 7 t8 t29) 47,
 i 9 (mv t30) 127] false)
 (.seq (.b9 [i 31 (mv t9) 0,
 i 32 (.bin .neq t31 (.c (I 0))) 1,
 i 33 (mv t32) 3,
 ig 34 (.load true 7 t8) 33 false 7,
 ig 35 (.load true 7 t7) 33 false 7,
 ig 36 (.eqs true [0,1,0,2,0,0,0] t34 t35) 33 false 31,
 i 37 (.pick t33 (.c (.pv (.bool true))) t36) 63,
 i 38 (mv t37) 127,
 ig 39 (.b0 t3 3) 38 false 255,
 ig 40 (.load false 1 t39) 38 false 511,
 ig 41 (mv t6) 38 false 255,
 ig 42 (.slice 7 t40 none (some t41) none) 38 false 2047,
 ig 43 (.load true 7 t7) 38 false 255,
 ig 44 (.call (.f C3) [t42,t43]) 38 false 8191,
 i 45 (.pick t38 (.c (.pv (.bool true))) t44) 16383] true)
 (.cond t45
 (.seq (.b9 [iz (.store 1 t4 (.c (.pv (.bool false)))) 0] false)
 .ret)
 .skip)))))
 (.b9 [i 46 (.bin .add T8 (.c (I 1))) 0,
 i 21 (mv t46) 1] false)))))))
 (.seq (.b9 [iz (.store 1 t4 (.c (.pv (.bool true)))) 0] false)
 .ret)))⟩
def a0b:x4:=⟨1,30,[.tmp 2],
 .seq (.b9 [i 1 (.box 7 t0) 0,
 i 2 (.mv (.c (I 0))) 0] false)
 (.scope
 (.seq (.seq (.b9 [i 7 (.b0 t1 0) 0,
 i 8 (.load false 1 t7) 1,
 i 9 (.bin .lss t8 (.c (I 0))) 3,
 i 10 (mv t9) 7,
 ig 11 (.b0 t1 0) 10 false 15,
 ig 12 (.load false 1 C1) 10 false 31,
 ig 13 (.bin .geq E3 (.c (I 13))) 10 false 63,
 i 14 (.pick A7 (.c (.pv (.bool true))) H6) 127] false)
 (.cond L7
 (.seq (.b9 [i 2 (.mv (.c (I 200))) 0] false)
 .ret)
 .skip))
 (.seq (.b9 [i 15 (.call (.f L2) []) 0,
 i 16 (.b0 t1 0) 0,
 i 17 (.load false 1 M4) 2,
 i 18 (.index true 13 6 P9 M5) 7,
 i 3 (.alloc [.pv (.str []),I 0,I 0,I 0,I 0,I 0]) 0,
 iz (.store 6 t3 P4) 31] true)
 (.seq (.b9 [i 4 (.mv (.c (I 0))) 0] false)
 (.seq .skip
 (.seq (.seq (.b9 [i 19 (.build [.pv .nilFunc,.pv .nilFunc,.pv .nilFunc] [(0,1,.f x5),(1,1,.f y4),(2,1,.f u5)]) 0,
 i 20 (.mv (.c (I 0))) 0] false)
 (.block 0
 (.loop [1,3,4,19,20]
 (.seq (.b9 [i 21 (.bin .lss U9 (.c (I 3))) 0] false)
 (.seq (.cond T8
 .skip
 (.exit 0))
 (.seq (.block 1
 (.seq (.b9 [i 22 (.index false 3 1 R5 U9) 0,
 i 6 (mv Z4) 1] false)
 (.seq (.b9 [i 23 (mv t6) 0,
 i 24 (.load true 6 t3) 0,
 i 25 (.load true 7 t1) 0,
 i 26 (.call t23 [t24,t25]) 7,
 i 27 (.not t26) 15] false)
 (.cond t27
 (.seq (.b9 [i 4 (.mv (.c (I 200))) 0] false)
 (.exit 0))
 .skip))))
 (.b9 [i 28 (.bin .add U9 (.c (I 1))) 0,
 i 20 (mv t28) 1] false)))))))
 (.seq (.b9 [i 29 (mv t4) 0,
 i 2 (mv t29) 1] false)
 .ret)))))))⟩
def W1:x4:=⟨1,6,[.tmp 2],
 .seq (.b9 [i 2 (.mv (.c (I 0))) 0] false)
 (.seq (.b9 [i 3 (.build [I 0,I 0,I 0,I 0,I 0,I 0,I 0,I 0,I 0,I 0,I 0,I 0,I 0,I 0] [(6,1,.c (I 1)),(7,1,.c (I 2)),(8,1,.c (I 2)),(9,1,.c (I 3)),(11,1,.c (I 4)),(13,1,.c (I 0))]) 0,
 i 4 (mv t0) 0,
 i 5 (.index false 14 1 t3 t4) 3,
 i 2 (mv t5) 7] false)
 .ret)⟩
def a1i:x4:=⟨1,12,[.tmp 2],
 .seq (.b9 [i 1 (.box 7 t0) 0,
 i 2 (.mv (.c (I 0))) 0] false)
 (.seq (.seq (.b9 [i 3 (.b0 t1 0) 0,
 i 4 (.load false 1 t3) 1,
 i 5 (.bin .eql t4 (.c (I 1))) 3] false)
 (.cond t5
 (.seq (.b9 [i 6 (.b0 t1 1) 0,
 i 7 (.load false 1 t6) 1,
 i 8 (.N6 t7) 3,
 i 2 (mv t8) 7] false)
 .ret)
 .skip))
 (.seq (.b9 [i 9 (.b0 t1 2) 0,
 i 10 (.load false 1 t9) 1,
 i 11 (.q0 A7) 3,
 i 2 (mv C1) 7] false)
 .ret))⟩
def V1:x4:=⟨1,89,[.tmp 2],
 .seq (.b9 [i 2 (.mv (.c (.emp 7))) 0] false)
 (.seq (.b9 [i 7 (.call (.f r9) [.c (I 200)]) 0,
 i 8 (.call (.f r9) [.c (I 50)]) 1,
 i 9 (.call (.f r9) [.c (I 30)]) 3,
 i 10 (.call (.f r9) [.c (I 12)]) 7,
 i 11 (.call (.f r9) [.c (I 5)]) 15,
 i 12 (.Z5 7 5 z2 [(0,t7),(1,t8),(2,t9),(3,A7),(4,C1)]) 31,
 i 3 (mv E3) 63] false)
 (.seq (.seq (.b9 [i 4 (.mv (.c (I 0))) 0] false)
 (.block 0
 (.loop [0,3,4]
 (.seq (.seq (.b9 [i 13 (mv t4) 0,
 i 14 (mv t0) 0,
 i 15 (.q0 L7) 2,
 i 16 (.bin .lss H6 P9) 7,
 i 17 (mv M4) 15,
 ig 18 (mv t4) 17 true 31,
 ig 19 (.bin .lss P4 (.c (I 200))) 17 true 63,
 i 20 (.pick M5 R5 (.c (.pv (.bool false)))) 127] false)
 (.cond U9
 .skip
 (.exit 0)))
 (.seq (.block 1
 (.seq (.b9 [i 23 (mv t3) 0,
 i 24 (mv t3) 0,
 i 25 (.o9 7 t24 (.c (I 0))) 2,
 i 26 (.b0 t25 3) 6,
 i 27 (.load false 1 t26) 14,
 i 28 (mv t0) 0,
 i 29 (mv t4) 0,
 i 30 (.o9 1 t28 t29) 96,
 i 31 (.load false 1 t30) 224,
 i 32 (.call (.f A1) [t31]) 480,
 i 33 (.Z5 7 1 z0 [(0,t32)]) 992,
 i 34 (.append 7 64 t27 t33) 2046,
 i 35 (.o9 7 t23 (.c (I 0))) 4095,
 i 36 (.b0 t35 3) 8191,
 iz (.store 1 t36 t34) 16383] true)
 (.b9 [i 37 (mv t3) 0,
 i 38 (mv t3) 0,
 i 39 (.o9 7 t38 (.c (I 0))) 2,
 i 40 (.b0 t39 4) 6,
 i 41 (.load false 1 t40) 14,
 i 42 (mv t0) 0,
 i 43 (mv t4) 0,
 i 44 (.o9 1 t42 t43) 96,
 i 45 (.load false 1 t44) 224,
 i 46 (.build z0 [(0,1,.c (I 10)),(1,1,.c (.pv (.bool true))),(3,1,t45)]) 480,
 i 47 (.Z5 7 1 z0 [(0,t46)]) 992,
 i 48 (.append 7 64 t41 t47) 2046,
 i 49 (.o9 7 t37 (.c (I 0))) 4095,
 i 50 (.b0 t49 4) 8191,
 iz (.store 1 t50 t48) 16383] true)))
 (.b9 [i 21 (mv t4) 0,
 i 22 (.bin .add T8 (.c (I 1))) 1,
 i 4 (mv Z4) 3] false))))))
 (.seq (.b9 [i 51 (.call (.f x6) []) 0,
 i 5 (mv t51) 1] false)
 (.seq (.seq (.b9 [i 6 (.mv (.c (I 0))) 0] false)
 (.block 2
 (.loop [3,5,6]
 (.seq (.seq (.b9 [i 52 (mv t6) 0,
 i 53 (mv t5) 0,
 i 54 (.q0 t53) 2,
 i 55 (.bin .lss t52 t54) 7] false)
 (.cond t55
 .skip
 (.exit 2)))
 (.seq (.block 3
 (.seq (.b9 [i 58 (mv t3) 0,
 i 59 (mv t3) 0,
 i 60 (.o9 7 t59 (.c (I 4))) 2,
 i 61 (.b0 t60 3) 6,
 i 62 (.load false 1 t61) 14,
 i 63 (mv t5) 0,
 i 64 (mv t6) 0,
 i 65 (.o9 1 t63 t64) 96,
 i 66 (.load false 1 t65) 224,
 i 67 (.call (.f A1) [t66]) 480,
 i 68 (.Z5 7 1 z0 [(0,t67)]) 992,
 i 69 (.append 7 64 t62 t68) 2046,
 i 70 (.o9 7 t58 (.c (I 4))) 4095,
 i 71 (.b0 t70 3) 8191,
 iz (.store 1 t71 t69) 16383] true)
 (.seq (.b9 [i 72 (mv t3) 0,
 i 73 (mv t3) 0,
 i 74 (.o9 7 t73 (.c (I 4))) 2,
 i 75 (.b0 t74 4) 6,
 i 76 (.load false 1 t75) 14,
 i 77 (mv t6) 0,
 i 78 (.bin .add (.c (I 5)) t77) 32,
 i 79 (.build z0 [(0,1,.c (I 9)),(4,1,t78)]) 96,
 i 80 (.Z5 7 1 z0 [(0,t79)]) 224,
 i 81 (.append 7 64 t76 t80) 510,
 i 82 (.o9 7 t72 (.c (I 4))) 1023,
 i 83 (.b0 t82 4) 2047,
 iz (.store 1 t83 t81) 4095] false)
 (.b9 [i 84 (mv t3) 0,
 i 85 (.call (.f r9) [.c (I 10)]) 0,
 i 86 (.Z5 7 1 z2 [(0,t85)]) 2,
 i 87 (.append 7 112 t84 t86) 7,
 i 3 (mv t87) 15] false))))
 (.b9 [i 56 (mv t6) 0,
 i 57 (.bin .add t56 (.c (I 1))) 1,
 i 6 (mv t57) 3] false))))))
 (.seq (.b9 [i 88 (mv t3) 0,
 i 2 (mv t88) 1] false)
 .ret)))))⟩
def a0N:x4:=⟨2,42,[.tmp 4,.tmp 5],
 .seq (.b9 [i 2 (.box 7 t0) 0,
 i 3 (.box 7 t1) 0,
 i 4 (.mv (.c (I 0))) 0,
 i 5 (.mv (.c (I 0))) 4] false)
 (.seq (.seq (.b9 [i 9 (.load true 7 t2) 0,
 i 10 (.call (.f u4) [t9]) 1,
 i 11 (.bin .neq A7 (.c (I 0))) 3,
 i 12 (mv C1) 7,
 ig 13 (.load true 7 t3) 12 false 15,
 ig 14 (.call (.f u4) [H6]) 12 false 31,
 ig 15 (.bin .neq L7 (.c (I 0))) 12 false 63,
 i 16 (.pick E3 (.c (.pv (.bool true))) P9) 127] false)
 (.cond M4
 (.seq (.b9 [i 4 (.mv (.c (I 0))) 0,
 i 5 (.mv (.c (I 200))) 1] false)
 .ret)
 .skip))
 (.seq (.b9 [i 18 (.load true 7 t2) 0,
 i 19 (.call (.f D4) [P4]) 1,
 i 17 (mv R5) 3,
 i 20 (.extract M5 0) 7,
 i 21 (.extract M5 1) 7,
 i 6 (mv U9) 15,
 i 7 (mv T8) 63] false)
 (.seq (.seq (.b9 [i 22 (mv t7) 0,
 i 23 (.bin .neq Z4 (.c (I 0))) 1] false)
 (.cond t23
 (.seq (.b9 [i 24 (mv t7) 0,
 i 4 (.mv (.c (I 0))) 0,
 i 5 (mv t24) 3] false)
 .ret)
 .skip))
 (.seq (.b9 [i 26 (.load true 7 t3) 0,
 i 27 (.call (.f D4) [t26]) 1,
 i 25 (mv t27) 3,
 i 28 (.extract t25 0) 7,
 i 29 (.extract t25 1) 7,
 i 8 (mv t28) 15,
 i 7 (mv t29) 63] false)
 (.seq (.block 0
 (.seq (.b9 [i 31 (mv t7) 0,
 i 32 (.bin .neq t31 (.c (I 0))) 1,
 i 30 (mv t32) 3] false)
 (.cond t30
 (.seq (.b9 [i 33 (mv t7) 0,
 i 4 (.mv (.c (I 0))) 0,
 i 5 (mv t33) 3] false)
 .ret)
 (.seq (.b9 [i 35 (mv t6) 0,
 i 36 (mv t8) 0,
 i 37 (.bin .lss t35 t36) 3,
 i 34 (mv t37) 7] false)
 (.cond t34
 (.seq (.b9 [i 4 (.mv (.c (I (-1)))) 0,
 i 5 (.mv (.c (I 0))) 1] false)
 .ret)
 (.seq (.b9 [i 39 (mv t6) 0,
 i 40 (mv t8) 0,
 i 41 (.bin .gtr t39 t40) 3,
 i 38 (mv t41) 7] false)
 (.cond t38
 (.seq (.b9 [i 4 (.mv (.c (I 1))) 0,
 i 5 (.mv (.c (I 0))) 1] false)
 .ret)
 .skip)))))))
 (.seq (.b9 [i 4 (.mv (.c (I 0))) 0,
 i 5 (.mv (.c (I 0))) 1] false)
 .ret))))))⟩
def a3x:x4:=⟨2,22,[.tmp 4,.tmp 5],
 .seq (.b9 [i 3 (.box 7 t1) 0,
 i 4 (.mv (.c (.pv (.str [])))) 0,
 i 5 (.mv (.c (.pv (.bool false)))) 2] false)
 (.seq (.seq (.b9 [i 8 (.b0 t3 0) 0,
 i 9 (.load false 1 t8) 1,
 i 10 (.bin .eql t9 (.c (I 5))) 3] false)
 (.cond A7
 (.seq (.b9 [i 11 (.b0 t3 3) 0,
 i 12 (.load false 1 C1) 1,
 i 4 (mv E3) 3,
 i 5 (.mv (.c (.pv (.bool true)))) 7] false)
 .ret)
 .skip))
 (.seq (.b9 [i 14 (mv t0) 0,
 i 15 (.load true 7 t3) 0,
 i 16 (.call (.f I6) [L7,P9]) 3,
 i 13 (mv M4) 7,
 i 17 (.extract H6 0) 15,
 i 18 (.extract H6 1) 15,
 i 6 (mv M5) 31,
 i 7 (mv P4) 127] false)
 (.seq (.b9 [i 19 (mv t6) 0,
 i 20 (mv t7) 0,
 i 21 (.bin .eql U9 (.c (I 0))) 2,
 i 4 (mv R5) 1,
 i 5 (mv T8) 15] false)
 .ret)))⟩
def Z9:x4:=⟨4,37,[],
 .seq (.b9 [i 4 (.box 7 t0) 0] false)
 (.seq (.seq (.b9 [i 6 (.load false 1 t1) 0,
 i 7 (.load true 7 t4) 0,
 i 8 (.call (.f B5) [t6,t7]) 3,
 i 9 (.not t8) 7,
 i 10 (mv t9) 15,
 ig 11 (.b0 t4 0) 10 false 31,
 ig 12 (.load false 1 C1) 10 false 63,
 ig 13 (.call (.f E6) [E3]) 10 false 127,
 ig 14 (.bin .eql H6 (.c (I 0))) 10 false 255,
 i 15 (.pick A7 (.c (.pv (.bool true))) L7) 511,
 i 16 (mv P9) 1023,
 ig 17 (.load false 1 t2) 16 false 2047,
 ig 18 (.b0 t4 4) 16 false 2047,
 ig 19 (.load false 1 P4) 16 false 6143,
 ig 20 (.o9 1 M5 R5) 16 false 16383,
 ig 21 (.load false 1 U9) 16 false 32767,
 i 22 (.pick M4 (.c (.pv (.bool true))) T8) 65535] false)
 (.cond Z4
 .ret
 .skip))
 (.seq (.b9 [i 23 (.load false 1 t2) 0,
 i 24 (.b0 t4 4) 0,
 i 25 (.load false 1 t24) 2,
 i 26 (.o9 1 t23 t25) 7,
 iz (.store 1 t26 (.c (.pv (.bool true)))) 15] false)
 (.seq (.b9 [i 27 (.load false 1 t1) 0,
 i 28 (.b0 t4 4) 0,
 i 29 (.load false 1 t28) 2,
 i 30 (.o9 7 t27 t29) 7,
 i 31 (.load true 7 t30) 15,
 i 32 (.call (.f L0) [t31]) 31] false)
 (.block 0
 (.rng t32 [33]
 (.b9 [i 5 (.alloc z0) 0,
 iz (.store 7 t5 t33) 1] false)
 (.block 1
 (.b9 [i 34 (.load false 1 t3) 0,
 i 35 (.load true 7 t5) 0,
 i 36 (.call t34 [t35]) 3] false)))))))⟩
def a2x:x4:=⟨1,4,[.tmp 2],
 .seq (.b9 [i 1 (.box 7 t0) 0,
 i 2 (.mv (.c (.pv .nilFunc))) 0] false)
 (.seq (.b9 [i 3 (.mkf (.func y0) [] [t1]) 0,
 i 2 (mv t3) 1] false)
 .ret)⟩
def a1k:x4:=⟨1,15,[.cell 2 true 67],
 .seq (.b9 [i 2 (.alloc z1) 0] false)
 (.seq (.b9 [i 4 (.call (.f A6) [.c (.emp 1)]) 0,
 i 5 (.build z2 [(0,1,.c (I 3)),(5,1,.c (I 3))]) 0,
 i 6 (.build z2 [(0,1,.c (I 1)),(1,1,.c (.pv (.str [70,70,111,110,116])))]) 0,
 i 7 (.Z5 7 2 z2 [(0,t5),(1,t6)]) 6,
 i 8 (.append 7 112 t4 t7) 15,
 i 3 (mv t8) 31] false)
 (.seq (.b9 [i 9 (mv t3) 0,
 i 10 (.call (.f S4) [.c (I 0)]) 0,
 i 11 (.call (.f S4) [.c (I 1)]) 2,
 i 12 (.Z5 7 2 z0 [(0,A7),(1,C1)]) 6,
 i 13 (mv t0) 0,
 i 14 (.build z1 [(2,1,t9),(1,1,E3),(0,1,H6)]) 31,
 iz (.store 67 t2 L7) 63] false)
 .ret))⟩
def a8H:x4:=⟨1,5,[.cell 2 true 7],
 .seq (.b9 [i 2 (.alloc z0) 0] false)
 (.seq (.b9 [i 3 (mv t0) 0,
 i 4 (.build z0 [(0,1,.c (I 9)),(4,1,t3)]) 1,
 iz (.store 7 t2 t4) 3] false)
 .ret)⟩
def a3z:x4:=⟨3,23,[.tmp 6],
 .seq (.b9 [i 3 (.box 67 t0) 0,
 i 6 (.mv (.c (.pv (.bool false)))) 0] false)
 (.seq (.b9 [i 10 (.load true 67 t3) 0,
 i 11 (mv t1) 0,
 i 12 (.call (.f k7) [A7,C1]) 3,
 i 9 (mv E3) 7,
 i 13 (.extract t9 0) 15,
 i 14 (.extract t9 1) 15,
 i 7 (.alloc z1) 0,
 iz (.store 67 t7 H6) 95,
 i 8 (mv L7) 255] false)
 (.seq (.b9 [i 15 (mv t8) 0,
 i 16 (mv t2) 0,
 i 17 (.bin .eql P9 M4) 3,
 i 18 (mv M5) 7,
 ig 19 (.load true 67 t7) 18 true 15,
 ig 20 (.load true 67 t3) 18 true 15,
 ig 21 (.call (.f B1) [R5,U9]) 18 true 63,
 i 22 (.pick P4 T8 (.c (.pv (.bool false)))) 127,
 i 6 (mv Z4) 255] false)
 .ret))⟩
def a8I:x4:=⟨1,5,[.cell 2 true 7],
 .seq (.b9 [i 2 (.alloc z0) 0] false)
 (.seq (.b9 [i 3 (mv t0) 0,
 i 4 (.build z0 [(0,1,.c (I 3)),(2,1,t3)]) 1,
 iz (.store 7 t2 t4) 3] false)
 .ret)⟩
def J3:x4:=⟨2,88,[.cell 4 true 29,.tmp 5],
 .seq (.b9 [i 2 (.box 67 t0) 0,
 i 4 (.alloc z3) 0,
 i 5 (.mv (.c (I 0))) 0] false)
 (.seq (.b9 [i 11 (.b0 t2 0) 0,
 i 12 (.load true 67 C1) 1,
 i 13 (mv t1) 0,
 i 14 (.call (.f Y9) [E3,H6]) 7,
 i 10 (mv L7) 15,
 i 15 (.extract A7 0) 31,
 i 16 (.extract A7 1) 31,
 i 6 (mv P9) 63,
 i 7 (mv M4) 255] false)
 (.seq (.seq (.b9 [i 17 (mv t7) 0,
 i 18 (.bin .neq M5 (.c (I 0))) 1] false)
 (.cond P4
 (.seq (.b9 [i 19 (.build z3 []) 0,
 i 20 (mv t7) 0,
 iz (.store 29 t4 R5) 1,
 i 5 (mv U9) 7] false)
 .ret)
 .skip))
 (.seq (.b9 [i 21 (mv t6) 0,
 i 22 (mv t1) 0,
 i 23 (.bin .sub Z4 (.c (I 1))) 2,
 i 24 (.o9 7 T8 t23) 7,
 i 25 (.load true 7 t24) 15,
 i 8 (.alloc z0) 0,
 iz (.store 7 t8 t25) 63] false)
 (.seq (.seq (.b9 [i 26 (mv t6) 0,
 i 27 (.o9 7 t26 (.c (I 0))) 1,
 i 28 (.b0 t27 0) 3,
 i 29 (.load false 1 t28) 7,
 i 30 (.bin .eql t29 (.c (I 0))) 15,
 i 31 (mv t30) 31,
 ig 32 (.b0 t8 0) 31 false 63,
 ig 33 (.load false 1 t32) 31 false 127,
 ig 34 (.bin .neq t33 (.c (I 5))) 31 false 255,
 ig 35 (mv t34) 31 false 511,
 ig 36 (.b0 t8 0) 35 true 1023,
 ig 37 (.load false 1 t36) 35 true 2047,
 ig 38 (.bin .neq t37 (.c (I 6))) 35 true 4095,
 ig 39 (.pick t35 t38 (.c (.pv (.bool false)))) 31 false 8191,
 i 40 (.pick t31 (.c (.pv (.bool true))) t39) 16383] false)
 (.cond t40
 (.seq (.b9 [i 41 (.build z3 []) 0,
 iz (.store 29 t4 t41) 1,
 i 5 (.mv (.c (I 22))) 3] false)
 .ret)
 .skip))
 (.seq (.b9 [i 42 (mv t6) 0,
 i 43 (.o9 7 t42 (.c (I 1))) 1,
 i 44 (.load true 7 t43) 3,
 i 45 (mv t1) 0,
 i 46 (.build z3 [(7,7,t44),(28,1,t45)]) 15,
 i 9 (.alloc z3) 0,
 iz (.store 29 t9 t46) 63] false)
 (.seq (.seq (.b9 [i 48 (.b0 t2 0) 0,
 i 49 (.b0 t48 2) 1,
 i 50 (.load false 1 t49) 3,
 i 51 (mv t6) 0,
 i 52 (.o9 7 t51 (.c (I 0))) 8,
 i 53 (.load true 7 t52) 24,
 i 54 (.call (.f A9) [t50,t53]) 63,
 i 47 (mv t54) 127,
 i 55 (.extract t47 0) 255,
 i 56 (.extract t47 1) 255,
 i 57 (.b0 t9 0) 511,
 iz (.store 7 t57 t55) 1535,
 i 7 (mv t56) 4095] true)
 (.seq (.b9 [i 58 (mv t7) 0,
 i 59 (.bin .neq t58 (.c (I 0))) 1] false)
 (.cond t59
 (.seq (.b9 [i 60 (.build z3 []) 0,
 i 61 (mv t7) 0,
 iz (.store 29 t4 t60) 1,
 i 5 (mv t61) 7] false)
 .ret)
 .skip)))
 (.seq (.seq (.b9 [i 63 (.b0 t2 0) 0,
 i 64 (.b0 t63 2) 1,
 i 65 (.load false 1 t64) 3,
 i 66 (.load true 7 t8) 0,
 i 67 (.call (.f A9) [t65,t66]) 15,
 i 62 (mv t67) 31,
 i 68 (.extract t62 0) 63,
 i 69 (.extract t62 1) 63,
 i 70 (.b0 t9 14) 127,
 iz (.store 7 t70 t68) 383,
 i 7 (mv t69) 1023] false)
 (.seq (.b9 [i 71 (mv t7) 0,
 i 72 (.bin .neq t71 (.c (I 0))) 1] false)
 (.cond t72
 (.seq (.b9 [i 73 (.build z3 []) 0,
 i 74 (mv t7) 0,
 iz (.store 29 t4 t73) 1,
 i 5 (mv t74) 7] false)
 .ret)
 .skip)))
 (.seq (.seq (.b9 [i 76 (.load true 67 t2) 0,
 i 77 (.b0 t9 14) 0,
 i 78 (.load true 7 t77) 2,
 i 79 (.call (.f q8) [t76,t78]) 7,
 i 75 (mv t79) 15,
 i 80 (.extract t75 0) 31,
 i 81 (.extract t75 1) 31,
 i 82 (.b0 t9 21) 63,
 iz (.store 7 t82 t80) 191,
 i 7 (mv t81) 511] false)
 (.seq (.b9 [i 83 (mv t7) 0,
 i 84 (.bin .neq t83 (.c (I 0))) 1] false)
 (.cond t84
 (.seq (.b9 [i 85 (.build z3 []) 0,
 i 86 (mv t7) 0,
 iz (.store 29 t4 t85) 1,
 i 5 (mv t86) 7] false)
 .ret)
 .skip)))
 (.seq (.b9 [i 87 (.load true 29 t9) 0,
 iz (.store 29 t4 t87) 1,
 i 5 (.mv (.c (I 0))) 3] false)
 .ret)))))))))⟩
def W3:x4:=⟨4,8,[.tmp 6],
 .seq (.b9 [i 4 (.box 1 t0) 0,
 i 5 (.box 1 t1) 0,
 i 6 (.mv (.c (.pv .nilFunc))) 0] false)
 (.seq (.b9 [i 7 (.mkf (.func n4) [] [t2,t4,t3,t5]) 0,
 i 6 (mv t7) 1] false)
 .ret)⟩
def P7:x4:=⟨4,23,[.cell 4 true 67,.tmp 5],
 .seq (.b9 [i 4 (.alloc z1) 0,
 i 5 (.mv (.c (I 0))) 0] false)
 (.seq (.b9 [i 9 (.load false 1 t0) 0,
 i 10 (.load false 1 t1) 0,
 i 11 (.call t9 [A7]) 3,
 i 8 (mv C1) 7,
 i 12 (.extract t8 0) 15,
 i 13 (.extract t8 1) 15,
 i 6 (.alloc z3) 0,
 iz (.store 29 t6 E3) 95,
 i 7 (mv H6) 255] false)
 (.seq (.seq (.b9 [i 14 (mv t7) 0,
 i 15 (.bin .neq L7 (.c (I 0))) 1] false)
 (.cond P9
 (.seq (.b9 [i 16 (.load true 67 t2) 0,
 i 17 (mv t7) 0,
 iz (.store 67 t4 M4) 1,
 i 5 (mv M5) 7] false)
 .ret)
 .skip))
 (.seq (.b9 [i 18 (.load false 1 t3) 0,
 i 19 (.load true 29 t6) 0,
 i 20 (.call P4 [R5]) 3,
 i 21 (.extract U9 0) 7,
 i 22 (.extract U9 1) 7,
 iz (.store 67 t4 T8) 31,
 i 5 (mv Z4) 63] false)
 .ret)))⟩
def G6:x4:=⟨2,44,[.cell 4 true 67,.tmp 5],
 .seq (.b9 [i 2 (.box 67 t0) 0,
 i 3 (.box 29 t1) 0,
 i 4 (.alloc z1) 0,
 i 5 (.mv (.c (I 0))) 0] false)
 (.seq (.seq (.b9 [i 8 (.b0 t3 14) 0,
 i 9 (.b0 t8 3) 1,
 i 10 (.load false 1 t9) 3,
 i 11 (.b0 t3 7) 0,
 i 12 (.load true 7 C1) 8,
 i 13 (.call (.f L4) [A7,E3]) 31,
 i 14 (.not H6) 63] false)
 (.cond L7
 (.seq (.b9 [i 15 (.b0 t2 0) 0,
 i 16 (.load true 67 P9) 1,
 iz (.store 67 t4 M4) 3,
 i 5 (.mv (.c (I 22))) 7] false)
 .ret)
 .skip))
 (.seq (.b9 [i 18 (.b0 t2 0) 0,
 i 19 (.b0 P4 2) 1,
 i 20 (.load false 1 R5) 3,
 i 21 (.b0 t3 21) 0,
 i 22 (.load true 7 T8) 8,
 i 23 (.b0 t3 0) 0,
 i 24 (.load true 7 t23) 32,
 i 25 (.b0 t3 7) 0,
 i 26 (.load true 7 t25) 128,
 i 27 (.call (.f C9) [U9,Z4,t24,t26]) 511,
 i 17 (mv t27) 1023,
 i 28 (.extract M5 0) 2047,
 i 29 (.extract M5 1) 2047,
 i 6 (mv t28) 4095,
 i 7 (mv t29) 16383] false)
 (.seq (.seq (.b9 [i 30 (mv t7) 0,
 i 31 (.bin .neq t30 (.c (I 0))) 1] false)
 (.cond t31
 (.seq (.b9 [i 32 (.b0 t2 0) 0,
 i 33 (.load true 67 t32) 1,
 i 34 (mv t7) 0,
 iz (.store 67 t4 t33) 3,
 i 5 (mv t34) 15] false)
 .ret)
 .skip))
 (.seq (.b9 [i 35 (.load true 67 t2) 0,
 i 36 (.load true 29 t3) 0,
 i 37 (mv t6) 0,
 i 38 (.b0 t3 7) 0,
 i 39 (.load true 7 t38) 8,
 i 40 (.Z5 7 1 z0 [(0,t39)]) 24,
 i 41 (.call (.f q9) [t35,t36,t37,t40]) 63,
 i 42 (.extract t41 0) 127,
 i 43 (.extract t41 1) 127,
 iz (.store 67 t4 t42) 511,
 i 5 (mv t43) 1023] false)
 .ret))))⟩
def G7:x4:=⟨2,32,[.cell 4 true 67,.tmp 5],
 .seq (.b9 [i 2 (.box 67 t0) 0,
 i 3 (.box 29 t1) 0,
 i 4 (.alloc z1) 0,
 i 5 (.mv (.c (I 0))) 0] false)
 (.seq (.b9 [i 9 (.load true 67 t2) 0,
 i 10 (.b0 t3 21) 0,
 i 11 (.load true 7 A7) 2,
 i 12 (.b0 t3 0) 0,
 i 13 (.load true 7 E3) 8,
 i 14 (.call (.f u6) [t9,C1,H6]) 31,
 i 8 (mv L7) 63,
 i 15 (.extract t8 0) 127,
 i 16 (.extract t8 1) 127,
 i 6 (.alloc z0) 0,
 iz (.store 7 t6 P9) 767,
 i 7 (mv M4) 2047] false)
 (.seq (.seq (.b9 [i 17 (mv t7) 0,
 i 18 (.bin .neq M5 (.c (I 0))) 1] false)
 (.cond P4
 (.seq (.b9 [i 19 (.b0 t2 0) 0,
 i 20 (.load true 67 R5) 1,
 i 21 (mv t7) 0,
 iz (.store 67 t4 U9) 3,
 i 5 (mv T8) 15] false)
 .ret)
 .skip))
 (.seq (.b9 [i 22 (.load true 67 t2) 0,
 i 23 (.load true 29 t3) 0,
 i 24 (.b0 t2 0) 0,
 i 25 (.b0 t24 2) 4,
 i 26 (.load false 1 t25) 12,
 i 27 (.load true 7 t6) 0,
 i 28 (.Z5 7 1 z0 [(0,t27)]) 32,
 i 29 (.call (.f q9) [Z4,t23,t26,t28]) 127,
 i 30 (.extract t29 0) 255,
 i 31 (.extract t29 1) 255,
 iz (.store 67 t4 t30) 1023,
 i 5 (mv t31) 2047] false)
 .ret)))⟩
def G8:x4:=⟨2,30,[.cell 4 true 67,.tmp 5],
 .seq (.b9 [i 2 (.box 67 t0) 0,
 i 3 (.box 29 t1) 0,
 i 4 (.alloc z1) 0,
 i 5 (.mv (.c (I 0))) 0] false)
 (.seq (.b9 [i 9 (.b0 t2 0) 0,
 i 10 (.b0 t9 2) 1,
 i 11 (.load false 1 A7) 3,
 i 12 (.b0 t3 21) 0,
 i 13 (.load true 7 E3) 8,
 i 14 (.b0 t3 0) 0,
 i 15 (.load true 7 L7) 32,
 i 16 (.call (.f O1) [C1,H6,P9]) 127,
 i 8 (mv M4) 255,
 i 17 (.extract t8 0) 511,
 i 18 (.extract t8 1) 511,
 i 6 (mv M5) 1023,
 i 7 (mv P4) 4095] false)
 (.seq (.seq (.b9 [i 19 (mv t7) 0,
 i 20 (.bin .neq R5 (.c (I 0))) 1] false)
 (.cond U9
 (.seq (.b9 [i 21 (.b0 t2 0) 0,
 i 22 (.load true 67 T8) 1,
 i 23 (mv t7) 0,
 iz (.store 67 t4 Z4) 3,
 i 5 (mv t23) 15] false)
 .ret)
 .skip))
 (.seq (.b9 [i 24 (.load true 67 t2) 0,
 i 25 (.load true 29 t3) 0,
 i 26 (mv t6) 0,
 i 27 (.call (.f q9) [t24,t25,t26,.c (.emp 7)]) 7,
 i 28 (.extract t27 0) 15,
 i 29 (.extract t27 1) 15,
 iz (.store 67 t4 t28) 63,
 i 5 (mv t29) 127] false)
 .ret)))⟩
def G9:x4:=⟨2,32,[.cell 4 true 67,.tmp 5],
 .seq (.b9 [i 2 (.box 67 t0) 0,
 i 3 (.box 29 t1) 0,
 i 4 (.alloc z1) 0,
 i 5 (.mv (.c (I 0))) 0] false)
 (.seq (.b9 [i 9 (.build z0 [(0,1,.c (I 2))]) 0,
 i 6 (.alloc z0) 0,
 iz (.store 7 t6 t9) 3] false)
 (.seq (.seq (.b9 [i 11 (.load true 67 t2) 0,
 i 12 (.b0 t3 21) 0,
 i 13 (.load true 7 E3) 2,
 i 14 (.b0 t3 0) 0,
 i 15 (.load true 7 L7) 8,
 i 16 (.call (.f u6) [C1,H6,P9]) 31,
 i 10 (mv M4) 63,
 i 17 (.extract A7 0) 127,
 i 18 (.extract A7 1) 127,
 i 7 (.alloc z0) 0,
 iz (.store 7 t7 M5) 767,
 i 8 (mv P4) 2047] false)
 (.seq (.b9 [i 19 (mv t8) 0,
 i 20 (.bin .eql R5 (.c (I 0))) 1] false)
 (.cond U9
 (.b9 [i 21 (.b0 t6 2) 0,
 iz (.store 1 T8 (.c (I 1))) 1] false)
 .skip)))
 (.seq (.b9 [i 22 (.load true 67 t2) 0,
 i 23 (.load true 29 t3) 0,
 i 24 (.b0 t2 0) 0,
 i 25 (.b0 t24 2) 4,
 i 26 (.load false 1 t25) 12,
 i 27 (.load true 7 t6) 0,
 i 28 (.Z5 7 1 z0 [(0,t27)]) 32,
 i 29 (.call (.f q9) [Z4,t23,t26,t28]) 127,
 i 30 (.extract t29 0) 255,
 i 31 (.extract t29 1) 255,
 iz (.store 67 t4 t30) 1023,
 i 5 (mv t31) 2047] false)
 .ret)))⟩
def a0h:x4:=⟨1,5,[.cell 2 true 7],
 .seq (.b9 [i 2 (.alloc z2) 0] false)
 (.seq (.b9 [i 3 (mv t0) 0,
 i 4 (.build z2 [(0,1,.c (I 3)),(5,1,t3)]) 1,
 iz (.store 7 t2 t4) 3] false)
 .ret)⟩
def a2d:x4:=⟨1,5,[.cell 2 true 7],
 .seq (.b9 [i 2 (.alloc z0) 0] false)
 (.seq (.b9 [i 3 (mv t0) 0,
 i 4 (.build z0 [(0,1,.c (I 5)),(3,1,t3)]) 1,
 iz (.store 7 t2 t4) 3] false)
 .ret)⟩
def a1j:x4:=⟨3,23,[.cell 6 true 8,.tmp 7],
 .seq (.b9 [i 4 (.box 7 t1) 0,
 i 6 (.alloc [.emp 7,I 0,.pv (.bool false),I 0,.pv (.str []),I 0,I 0,I 0]) 0,
 i 7 (.mv (.c (I 0))) 0] false)
 (.seq (.seq (.b9 [i 8 (mv t0) 0,
 i 9 (.load true 7 t4) 0,
 i 10 (.call (.f B5) [t8,t9]) 3,
 i 11 (.not A7) 7] false)
 (.cond C1
 (.seq (.b9 [i 12 (.build [.emp 7,I 0,.pv (.bool false),I 0,.pv (.str []),I 0,I 0,I 0] []) 0,
 iz (.store 8 t6 E3) 1,
 i 7 (.mv (.c (I 2))) 3] false)
 .ret)
 .skip))
 (.seq (.seq (.b9 [i 13 (mv t2) 0,
 i 14 (.b0 t4 0) 0,
 i 15 (.load false 1 L7) 2,
 i 16 (.call (.f z7) [H6,P9]) 7,
 i 17 (.not M4) 15] false)
 (.cond M5
 (.seq (.b9 [i 18 (.build [.emp 7,I 0,.pv (.bool false),I 0,.pv (.str []),I 0,I 0,I 0] []) 0,
 iz (.store 8 t6 P4) 1,
 i 7 (.mv (.c (I 22))) 3] false)
 .ret)
 .skip))
 (.seq (.b9 [i 19 (mv t0) 0,
 i 20 (.build [.emp 7] [(0,1,R5)]) 1,
 i 21 (.load true 7 t4) 0,
 i 22 (.build [.emp 7,I 0,.pv (.bool false),I 0,.pv (.str []),I 0,I 0,I 0] [(0,1,U9),(1,7,T8)]) 7,
 iz (.store 8 t6 Z4) 15,
 i 7 (.mv (.c (I 0))) 31] false)
 .ret)))⟩
def a0M:x4:=⟨3,25,[.tmp 6],
 .seq (.b9 [i 3 (.box 8 t0) 0,
 i 6 (.mv (.c (I 0))) 0] false)
 (.seq (.seq (.b9 [i 7 (mv t1) 0,
 i 8 (.bin .lss t7 (.c (I 0))) 1,
 i 9 (mv t8) 3,
 ig 10 (mv t1) 9 false 7,
 ig 11 (.b0 t3 1) 9 false 7,
 ig 12 (.b0 C1 6) 9 false 23,
 ig 13 (.load false 1 E3) 9 false 55,
 ig 14 (.bin .gtr A7 H6) 9 false 127,
 i 15 (.pick t9 (.c (.pv (.bool true))) L7) 255,
 i 16 (mv P9) 511,
 ig 17 (mv t2) 16 false 1023,
 ig 18 (.b0 t3 1) 16 false 1023,
 ig 19 (.b0 P4 6) 16 false 3071,
 ig 20 (.load false 1 R5) 16 false 7167,
 ig 21 (mv t1) 16 false 1023,
 ig 22 (.bin .sub U9 T8) 16 false 31743,
 ig 23 (.bin .gtr M5 Z4) 16 false 65535,
 i 24 (.pick M4 (.c (.pv (.bool true))) t23) 131071] false)
 (.cond t24
 (.seq (.b9 [i 6 (.mv (.c (I 23))) 0] false)
 .ret)
 .skip))
 (.seq (.b9 [i 6 (.mv (.c (I 0))) 0] false)
 .ret))⟩
def R7:x4:=⟨1,11,[.cell 2 true 7],
 .seq (.b9 [i 1 (.box 8 t0) 0,
 i 2 (.alloc z2) 0] false)
 (.seq (.b9 [i 3 (.b0 t1 0) 0,
 i 4 (.b0 t3 0) 1,
 i 5 (.load false 1 t4) 3,
 i 6 (.b0 t1 1) 0,
 i 7 (.b0 t6 4) 8,
 i 8 (.load false 1 t7) 24,
 i 9 (.o9 7 t5 t8) 63,
 i 10 (.load true 7 t9) 127,
 iz (.store 7 t2 A7) 255] false)
 .ret)⟩
def Q2:x4:=⟨3,20,[.tmp 6],
 .seq (.b9 [i 6 (.mv (.c (.emp 1))) 0] false)
 (.seq (.b9 [i 8 (mv t0) 0,
 i 9 (.q0 t8) 1,
 i 10 (.b1a 1 1 [.int .u8 (0)] t9) 3,
 i 7 (mv A7) 7] false)
 (.seq (.b9 [i 11 (mv t7) 0,
 i 12 (mv t0) 0,
 i 13 (.copy 1 C1 E3) 3] false)
 (.seq (.b9 [i 14 (mv t7) 0,
 i 15 (mv t1) 0,
 i 16 (.slice 1 L7 (some P9) none none) 3,
 i 17 (mv t2) 0,
 i 18 (.copy 1 M4 M5) 15] false)
 (.seq (.b9 [i 19 (mv t7) 0,
 i 6 (mv R5) 1] false)
 .ret))))⟩
def R8:x4:=⟨2,23,[.tmp 4],
 .seq (.b9 [i 2 (.box 8 t0) 0,
 i 3 (.box 7 t1) 0,
 i 4 (.mv (.c (.emp 7))) 0] false)
 (.seq (.b9 [i 6 (.b0 t2 0) 0,
 i 7 (.b0 t6 0) 1,
 i 8 (.load false 1 t7) 3,
 i 9 (.q0 t8) 7,
 i 10 (.b1a 7 112 [.int .i64 (0),.str [],.sl 7 [],.sl 7 [],.sl 7 [],.int .i64 (0),.int .i64 (0)] t9) 15,
 i 5 (mv A7) 31] false)
 (.seq (.b9 [i 11 (mv t5) 0,
 i 12 (.b0 t2 0) 0,
 i 13 (.b0 E3 0) 2,
 i 14 (.load false 1 H6) 6,
 i 15 (.copy 7 C1 L7) 15] false)
 (.seq (.b9 [i 16 (mv t5) 0,
 i 17 (.b0 t2 1) 0,
 i 18 (.b0 M5 4) 2,
 i 19 (.load false 1 P4) 6,
 i 20 (.load true 7 t3) 0,
 i 21 (.o9 7 M4 R5) 31,
 iz (.store 7 T8 U9) 63] false)
 (.seq (.b9 [i 22 (mv t5) 0,
 i 4 (mv Z4) 1] false)
 .ret))))⟩
def J9:x4:=⟨3,20,[.tmp 6],
 .seq (.b9 [i 6 (.mv (.c (.emp 7))) 0] false)
 (.seq (.b9 [i 8 (mv t0) 0,
 i 9 (.q0 t8) 1,
 i 10 (.b1a 7 64 [.int .i64 (0),.bool false,.int .i64 (0),.str [],.int .i64 (0),.int .i64 (0),.int .i64 (0)] t9) 3,
 i 7 (mv A7) 7] false)
 (.seq (.b9 [i 11 (mv t7) 0,
 i 12 (mv t0) 0,
 i 13 (.copy 7 C1 E3) 3] false)
 (.seq (.b9 [i 14 (mv t7) 0,
 i 15 (mv t1) 0,
 i 16 (.slice 7 L7 (some P9) none none) 3,
 i 17 (mv t2) 0,
 i 18 (.copy 7 M4 M5) 15] false)
 (.seq (.b9 [i 19 (mv t7) 0,
 i 6 (mv R5) 1] false)
 .ret))))⟩
def a2c:x4:=⟨1,37,[.cell 2 true 7,.tmp 3],
 .seq (.b9 [i 1 (.box 7 t0) 0,
 i 2 (.alloc z0) 0,
 i 3 (.mv (.c (I 0))) 0] false)
 (.seq (.seq (.b9 [i 5 (.load true 7 t1) 0,
 i 6 (.call (.f u4) [t5]) 1,
 i 4 (mv t6) 3] false)
 (.seq (.b9 [i 7 (mv t4) 0,
 i 8 (.bin .neq t7 (.c (I 0))) 1] false)
 (.cond t8
 (.seq (.b9 [i 9 (.build z0 []) 0,
 i 10 (mv t4) 0,
 iz (.store 7 t2 t9) 1,
 i 3 (mv A7) 7] false)
 .ret)
 .skip)))
 (.seq (.seq (.b9 [i 11 (.load true 7 t1) 0,
 i 12 (.b0 t1 1) 0,
 i 13 (.load false 1 E3) 2,
 i 14 (.build z0 [(0,1,.c (I 0)),(1,1,H6)]) 6,
 i 15 (.eqs false [0,1,0,2,0,0,0] C1 L7) 15,
 i 16 (mv P9) 31,
 ig 17 (.b0 t1 0) 16 false 63,
 ig 18 (.load false 1 M5) 16 false 127,
 ig 19 (.bin .eql P4 (.c (I 6))) 16 false 255,
 i 20 (.pick M4 (.c (.pv (.bool true))) R5) 511] false)
 (.cond U9
 (.seq (.b9 [i 21 (.build z0 []) 0,
 iz (.store 7 t2 T8) 1,
 i 3 (.mv (.c (I 22))) 3] false)
 .ret)
 .skip))
 (.seq (.seq (.b9 [i 22 (.b0 t1 0) 0,
 i 23 (.load false 1 Z4) 1,
 i 24 (.bin .eql t23 (.c (I 4))) 3,
 i 25 (mv t24) 7,
 ig 26 (.b0 t1 2) 25 true 15,
 ig 27 (.load false 1 t26) 25 true 31,
 ig 28 (.bin .rem t27 (.c (I 65536))) 25 true 63,
 ig 29 (.bin .eql t28 (.c (I 0))) 25 true 127,
 i 30 (.pick t25 t29 (.c (.pv (.bool false)))) 255] false)
 (.cond t30
 (.seq (.b9 [i 31 (.load true 7 t1) 0,
 i 32 (.call (.f L1) [t31]) 1,
 i 33 (.extract t32 0) 3,
 i 34 (.extract t32 1) 3,
 iz (.store 7 t2 t33) 15,
 i 3 (mv t34) 31] false)
 .ret)
 .skip))
 (.seq (.b9 [i 35 (.b0 t1 1) 0,
 iz (.store 1 t35 (.c (.pv (.bool false)))) 1] false)
 (.seq (.b9 [i 36 (.load true 7 t1) 0,
 iz (.store 7 t2 t36) 1,
 i 3 (.mv (.c (I 0))) 3] false)
 .ret)))))⟩
def a1l:x4:=⟨2,11,[.cell 4 true 7,.tmp 5],
 .seq (.b9 [i 3 (.box 1 t1) 0,
 i 4 (.alloc z0) 0,
 i 5 (.mv (.c (I 0))) 0] false)
 (.seq (.b9 [i 6 (mv t0) 0,
 i 7 (.mkf (.func E7) [] [t3]) 0,
 i 8 (.call (.f A4) [t6,t7]) 3,
 i 9 (.extract t8 0) 7,
 i 10 (.extract t8 1) 7,
 iz (.store 7 t4 t9) 31,
 i 5 (mv A7) 63] false)
 .ret)⟩
def M7:x4:=⟨2,19,[.tmp 4],
 .seq (.b9 [i 3 (.box 7 t1) 0,
 i 4 (.mv (.c (I 0))) 0] false)
 (.seq (.seq (.b9 [i 6 (mv t0) 0,
 i 7 (.q0 t6) 1,
 i 8 (.mv (.c (I 0))) 0] false)
 (.block 0
 (.loop [0,3,7,8]
 (.seq (.b9 [i 9 (.bin .lss t8 t7) 0] false)
 (.seq (.cond t9
 .skip
 (.exit 0))
 (.seq (.block 1
 (.seq (.b9 [i 10 (mv t8) 0,
 i 5 (mv A7) 1] false)
 (.seq (.b9 [i 11 (.load true 7 t3) 0,
 i 12 (mv t0) 0,
 i 13 (mv t5) 0,
 i 14 (.o9 7 E3 H6) 6,
 i 15 (.load true 7 L7) 14,
 i 16 (.eqs false [0,1,0,2,0,0,0] C1 P9) 31] true)
 (.cond M4
 (.seq (.b9 [i 17 (mv t5) 0,
 i 4 (mv M5) 1] false)
 .ret)
 .skip))))
 (.b9 [i 18 (.bin .add t8 (.c (I 1))) 0,
 i 8 (mv P4) 1] false)))))))
 (.seq (.b9 [i 4 (.mv (.c (I (-1)))) 0] false)
 .ret))⟩
def K1:x4:=⟨3,33,[.tmp 6],
 .seq (.b9 [i 6 (.mv (.c (.emp 7))) 0] false)
 (.seq (.b9 [i 8 (mv t0) 0,
 i 9 (mv t1) 0,
 i 10 (mv t2) 0,
 i 11 (mv t0) 0,
 i 12 (.q0 C1) 8,
 i 13 (.slice 7 t8 (some t9) (some A7) (some E3)) 31] false)
 (.seq (.seq (.b9 [i 14 (mv t1) 0,
 i 15 (mv t2) 0,
 i 16 (.bin .eql L7 P9) 3] false)
 (.cond M4
 (.seq (.b9 [i 17 (mv t0) 0,
 i 6 (mv M5) 1] false)
 .ret)
 .skip))
 (.seq (.b9 [i 18 (mv t0) 0,
 i 19 (.q0 P4) 1,
 i 7 (mv R5) 3] false)
 (.seq (.b9 [i 20 (mv t0) 0,
 i 21 (mv t1) 0,
 i 22 (.slice 7 U9 none (some T8) none) 3,
 i 23 (mv t0) 0,
 i 24 (mv t2) 0,
 i 25 (.slice 7 t23 (some t24) none none) 24,
 i 26 (.append 7 64 Z4 t25) 63,
 i 0 (mv t26) 127] true)
 (.seq (.b9 [i 27 (mv t0) 0,
 i 28 (mv t0) 0,
 i 29 (.q0 t28) 2,
 i 30 (mv t7) 0,
 i 31 (.slice 7 t27 (some t29) (some t30) none) 15,
 iz (.clear 7 [.int .i64 (0),.bool false,.int .i64 (0),.str [],.int .i64 (0),.int .i64 (0),.int .i64 (0)] t31) 31] false)
 (.seq (.b9 [i 32 (mv t0) 0,
 i 6 (mv t32) 1] false)
 .ret))))))⟩
def a4I:x4:=⟨3,36,[.tmp 6],
 .seq (.b9 [i 6 (.mv (.c (I 0))) 0] false)
 (.seq (.b9 [i 7 (.mv (.c (.emp 1))) 0] false)
 (.seq (.seq (.b9 [i 8 (.mv (.c (I 0))) 0] false)
 (.block 0
 (.loop [0,1,2,7,8]
 (.seq (.seq (.b9 [i 9 (mv t8) 0,
 i 10 (mv t0) 0,
 i 11 (.q0 A7) 2,
 i 12 (.bin .lss t9 C1) 7] false)
 (.cond E3
 .skip
 (.exit 0)))
 (.seq (.block 1
 (.seq (.b9 [i 15 (mv t0) 0,
 i 16 (mv t8) 0,
 i 17 (.o9 7 P9 M4) 3,
 i 18 (.b0 M5 0) 7,
 i 19 (.load false 1 P4) 15,
 i 20 (mv t1) 0,
 i 21 (.bin .eql R5 U9) 63] false)
 (.cond T8
 (.b9 [i 22 (mv t7) 0,
 i 23 (mv t8) 0,
 i 24 (.Z5 1 1 [I 0] [(0,t23)]) 2,
 i 25 (.append 1 8 Z4 t24) 7,
 i 7 (mv t25) 15] false)
 .skip)))
 (.b9 [i 13 (mv t8) 0,
 i 14 (.bin .add H6 (.c (I 1))) 1,
 i 8 (mv L7) 3] false))))))
 (.seq (.seq (.b9 [i 26 (mv t7) 0,
 i 27 (.q0 t26) 1,
 i 28 (.bin .eql t27 (.c (I 0))) 3] false)
 (.cond t28
 (.seq (.b9 [i 6 (.mv (.c (I (-1)))) 0] false)
 .ret)
 .skip))
 (.seq (.b9 [i 29 (mv t7) 0,
 i 30 (mv t2) 0,
 i 31 (mv t7) 0,
 i 32 (.q0 t31) 4,
 i 33 (.bin .rem t30 t32) 14,
 i 34 (.o9 1 t29 t33) 31,
 i 35 (.load false 1 t34) 63,
 i 6 (mv t35) 127] false)
 .ret))))⟩
def D2:x4:=⟨2,32,[.cell 4 true 7,.tmp 5],
 .seq (.b9 [i 2 (.box 67 t0) 0,
 i 3 (.box 7 t1) 0,
 i 4 (.alloc z0) 0,
 i 5 (.mv (.c (I 0))) 0] false)
 (.seq (.b9 [i 10 (.b0 t2 0) 0,
 i 11 (.b0 A7 2) 1,
 i 12 (.load false 1 C1) 3,
 i 13 (.build z0 [(0,1,.c (I 9)),(4,1,.c (I 4))]) 0,
 i 14 (.load true 7 t3) 0,
 i 15 (.call (.f I7) [E3,H6,L7]) 31,
 i 9 (mv P9) 63,
 i 16 (.extract t9 0) 127,
 i 17 (.extract t9 1) 127,
 i 18 (.extract t9 2) 127,
 i 6 (.alloc z0) 0,
 iz (.store 7 t6 M4) 1279,
 i 7 (mv M5) 3583,
 i 8 (mv P4) 8191] false)
 (.seq (.seq (.b9 [i 19 (mv t8) 0,
 i 20 (.bin .neq R5 (.c (I 0))) 1,
 i 21 (mv U9) 3,
 ig 22 (mv t7) 21 false 7,
 ig 23 (.not Z4) 21 false 15,
 i 24 (.pick T8 (.c (.pv (.bool true))) t23) 31,
 i 25 (mv t24) 63,
 ig 26 (.b0 t6 0) 25 false 127,
 ig 27 (.load false 1 t26) 25 false 255,
 ig 28 (.bin .neq t27 (.c (I 9))) 25 false 511,
 i 29 (.pick t25 (.c (.pv (.bool true))) t28) 1023] false)
 (.cond t29
 (.seq (.b9 [i 30 (.build z0 []) 0,
 iz (.store 7 t4 t30) 1,
 i 5 (.mv (.c (I 24))) 3] false)
 .ret)
 .skip))
 (.seq (.b9 [i 31 (.load true 7 t6) 0,
 iz (.store 7 t4 t31) 1,
 i 5 (.mv (.c (I 0))) 3] false)
 .ret)))⟩
def K5:x4:=⟨3,29,[.cell 6 true 7,.tmp 7],
 .seq (.b9 [i 3 (.box 67 t0) 0,
 i 4 (.box 7 t1) 0,
 i 5 (.box 7 t2) 0,
 i 6 (.alloc z0) 0,
 i 7 (.mv (.c (I 0))) 0] false)
 (.seq (.b9 [i 12 (.b0 t3 0) 0,
 i 13 (.b0 E3 2) 1,
 i 14 (.load false 1 H6) 3,
 i 15 (.load true 7 t4) 0,
 i 16 (.load true 7 t5) 0,
 i 17 (.call (.f I7) [L7,P9,M4]) 31,
 i 11 (mv M5) 63,
 i 18 (.extract C1 0) 127,
 i 19 (.extract C1 1) 127,
 i 20 (.extract C1 2) 127,
 i 8 (.alloc z0) 0,
 iz (.store 7 t8 P4) 1279,
 i 9 (mv R5) 3583,
 i 10 (mv U9) 8191] false)
 (.seq (.seq (.b9 [i 21 (mv A7) 0,
 i 22 (.bin .eql T8 (.c (I 0))) 1,
 i 23 (mv Z4) 3,
 ig 24 (mv t9) 23 true 7,
 ig 25 (.not t24) 23 true 15,
 i 26 (.pick t23 t25 (.c (.pv (.bool false)))) 31] false)
 (.cond t26
 (.b9 [i 10 (.mv (.c (I 40))) 0] false)
 .skip))
 (.seq (.b9 [i 27 (.load true 7 t8) 0,
 i 28 (mv A7) 0,
 iz (.store 7 t6 t27) 1,
 i 7 (mv t28) 7] false)
 .ret)))⟩
def a4K:x4:=⟨2,27,[.cell 4 true 67,.tmp 5],
 .seq (.b9 [i 2 (.box 67 t0) 0,
 i 4 (.alloc z1) 0,
 i 5 (.mv (.c (I 0))) 0] false)
 (.seq (.seq (.b9 [i 6 (.b0 t2 0) 0,
 i 7 (.load false 1 t6) 1,
 i 8 (.q0 t7) 3,
 i 9 (mv t1) 0,
 i 10 (.q0 t9) 8,
 i 11 (.bin .add t8 A7) 31,
 i 12 (.bin .gtr C1 (.c (I 100))) 63] false)
 (.cond E3
 (.seq (.b9 [i 13 (.load true 67 t2) 0,
 iz (.store 67 t4 H6) 1,
 i 5 (.mv (.c (I 21))) 3] false)
 .ret)
 .skip))
 (.seq (.b9 [i 14 (.b0 t2 0) 0,
 i 15 (.load false 1 L7) 1,
 i 16 (.b0 t2 0) 0,
 i 17 (.load false 1 M4) 4,
 i 18 (.q0 M5) 12,
 i 19 (.b0 t2 0) 0,
 i 20 (.load false 1 R5) 32,
 i 21 (.q0 U9) 96,
 i 22 (.slice 7 P9 none (some P4) (some T8)) 255,
 i 23 (mv t1) 0,
 i 24 (.append 7 64 Z4 t23) 1023,
 i 25 (.b0 t2 0) 2047,
 iz (.store 1 t25 t24) 4095] false)
 (.seq (.b9 [i 26 (.load true 67 t2) 0,
 iz (.store 67 t4 t26) 1,
 i 5 (.mv (.c (I 0))) 3] false)
 .ret)))⟩
def a5K:x4:=⟨2,27,[.tmp 4,.tmp 5],
 .seq (.b9 [i 2 (.box 67 t0) 0,
 i 4 (.mv (.c (.emp 7))) 0,
 i 5 (.mv (.c (I 0))) 2] false)
 (.seq (.seq (.b9 [i 6 (mv t1) 0,
 i 7 (.bin .lss t6 (.c (I 0))) 1] false)
 (.cond t7
 (.seq (.b9 [i 4 (.mv (.c (.emp 7))) 0,
 i 5 (.mv (.c (I 2))) 1] false)
 .ret)
 .skip))
 (.seq (.seq (.b9 [i 8 (mv t1) 0,
 i 9 (.b0 t2 0) 0,
 i 10 (.load false 1 t9) 2,
 i 11 (.q0 A7) 6,
 i 12 (.bin .gtr t8 C1) 15] false)
 (.cond E3
 (.seq (.b9 [i 4 (.mv (.c (.emp 7))) 0,
 i 5 (.mv (.c (I 20))) 1] false)
 .ret)
 .skip))
 (.seq (.b9 [i 13 (.b0 t2 0) 0,
 i 14 (.load false 1 H6) 1,
 i 15 (.b0 t2 0) 0,
 i 16 (.load false 1 P9) 4,
 i 17 (.q0 M4) 12,
 i 18 (mv t1) 0,
 i 19 (.bin .sub M5 P4) 60,
 i 20 (.b0 t2 0) 0,
 i 21 (.load false 1 U9) 128,
 i 22 (.q0 T8) 384,
 i 23 (.b0 t2 0) 0,
 i 24 (.load false 1 t23) 1024,
 i 25 (.q0 t24) 3072,
 i 26 (.slice 7 L7 (some R5) (some Z4) (some t25)) 8191,
 i 4 (mv t26) 16383,
 i 5 (.mv (.c (I 0))) 32767] false)
 .ret)))⟩
def a4J:x4:=⟨2,30,[.cell 4 true 67,.tmp 5],
 .seq (.b9 [i 2 (.box 67 t0) 0,
 i 4 (.alloc z1) 0,
 i 5 (.mv (.c (I 0))) 0] false)
 (.seq (.seq (.b9 [i 6 (mv t1) 0,
 i 7 (.bin .lss t6 (.c (I 0))) 1] false)
 (.cond t7
 (.seq (.b9 [i 8 (.load true 67 t2) 0,
 iz (.store 67 t4 t8) 1,
 i 5 (.mv (.c (I 2))) 3] false)
 .ret)
 .skip))
 (.seq (.seq (.b9 [i 9 (mv t1) 0,
 i 10 (.b0 t2 0) 0,
 i 11 (.load false 1 A7) 2,
 i 12 (.q0 C1) 6,
 i 13 (.bin .gtr t9 E3) 15] false)
 (.cond H6
 (.seq (.b9 [i 14 (.load true 67 t2) 0,
 iz (.store 67 t4 L7) 1,
 i 5 (.mv (.c (I 20))) 3] false)
 .ret)
 .skip))
 (.seq (.b9 [i 15 (.b0 t2 0) 0,
 i 16 (.load false 1 P9) 1,
 i 17 (.b0 t2 0) 0,
 i 18 (.load false 1 M5) 4,
 i 19 (.q0 P4) 12,
 i 20 (mv t1) 0,
 i 21 (.bin .sub R5 U9) 60,
 i 22 (.b0 t2 0) 0,
 i 23 (.load false 1 Z4) 128,
 i 24 (.q0 t23) 384,
 i 25 (mv t1) 0,
 i 26 (.bin .sub t24 t25) 1920,
 i 27 (.slice 7 M4 none (some T8) (some t26)) 4095,
 i 28 (.b0 t2 0) 8191,
 iz (.store 1 t28 t27) 16383] false)
 (.seq (.b9 [i 29 (.load true 67 t2) 0,
 iz (.store 67 t4 t29) 1,
 i 5 (.mv (.c (I 0))) 3] false)
 .ret))))⟩
def O8:x4:=⟨2,9,[.tmp 4],
 .seq (.b9 [i 3 (.box 7 t1) 0,
 i 4 (.mv (.c (.pv (.bool false)))) 0] false)
 (.seq (.b9 [i 5 (mv t0) 0,
 i 6 (.load true 7 t3) 0,
 i 7 (.call (.f v8) [t5,t6]) 3,
 i 8 (.bin .geq t7 (.c (I 0))) 7,
 i 4 (mv t8) 15] false)
 .ret)⟩
def a0f:x4:=⟨0,15,[.cell 0 true 78],
 .seq (.b9 [i 0 (.alloc z5) 0] false)
 (.seq (.b9 [i 1 (.build [.pv (.str []),I 0,I 0,I 0,I 0,I 0] [(0,1,.c (.pv (.str [110,117,108,108,116,121,112,101])))]) 0,
 i 2 (.build [.pv (.str []),I 0,I 0,I 0,I 0,I 0] [(0,1,.c (.pv (.str [109,97,114,107,116,121,112,101])))]) 0,
 i 3 (.build [.pv (.str []),I 0,I 0,I 0,I 0,I 0] [(0,1,.c (.pv (.str [98,111,111,108,101,97,110,116,121,112,101]))),(2,1,.c (I 1))]) 0,
 i 4 (.build [.pv (.str []),I 0,I 0,I 0,I 0,I 0] [(0,1,.c (.pv (.str [105,110,116,101,103,101,114,116,121,112,101]))),(1,1,.c (I (-2147483648))),(2,1,.c (I 2147483647))]) 0,
 i 5 (.build [.pv (.str []),I 0,I 0,I 0,I 0,I 0] [(0,1,.c (.pv (.str [114,101,97,108,116,121,112,101]))),(1,1,.c (I (-2147483648))),(2,1,.c (I 2147483648))]) 0,
 i 6 (.build [.pv (.str []),I 0,I 0,I 0,I 0,I 0] [(0,1,.c (.pv (.str [110,97,109,101,116,121,112,101]))),(4,1,.c (I 100))]) 0,
 i 7 (.build [.pv (.str []),I 0,I 0,I 0,I 0,I 0] [(0,1,.c (.pv (.str [115,116,114,105,110,103,116,121,112,101]))),(5,1,.c (I 1))]) 0,
 i 8 (.build [.pv (.str []),I 0,I 0,I 0,I 0,I 0] [(0,1,.c (.pv (.str [97,114,114,97,121,116,121,112,101]))),(5,1,.c (I 2))]) 0,
 i 9 (.build [.pv (.str []),I 0,I 0,I 0,I 0,I 0] [(0,1,.c (.pv (.str [112,97,99,107,101,100,97,114,114,97,121,116,121,112,101]))),(5,1,.c (I 2))]) 0,
 i 10 (.build [.pv (.str []),I 0,I 0,I 0,I 0,I 0] [(0,1,.c (.pv (.str [100,105,99,116,116,121,112,101]))),(5,1,.c (I 3))]) 0,
 i 11 (.build [.pv (.str []),I 0,I 0,I 0,I 0,I 0] [(0,1,.c (.pv (.str [111,112,101,114,97,116,111,114,116,121,112,101]))),(3,1,.c (I 1)),(4,1,.c (I 100))]) 0,
 i 12 (.build [.pv (.str []),I 0,I 0,I 0,I 0,I 0] [(0,1,.c (.pv (.str [102,105,108,101,116,121,112,101]))),(5,1,.c (I 3))]) 0,
 i 13 (.build [.pv (.str []),I 0,I 0,I 0,I 0,I 0] [(0,1,.c (.pv (.str [115,97,118,101,116,121,112,101]))),(1,1,.c (I 1)),(2,1,.c (I 9223372036854775807))]) 0,
 i 14 (.build z5 [(0,6,t1),(6,6,t2),(12,6,t3),(18,6,t4),(24,6,t5),(30,6,t6),(36,6,t7),(42,6,t8),(48,6,t9),(54,6,A7),(60,6,C1),(66,6,E3),(72,6,H6)]) 8191,
 iz (.store 78 t0 L7) 16383] false)
 .ret)⟩
def H9:x4:=⟨2,17,[.tmp 4],
 .seq (.b9 [i 2 (.box 6 t0) 0,
 i 3 (.box 7 t1) 0,
 i 4 (.mv (.c (.pv (.bool false)))) 0] false)
 (.seq (.b9 [i 5 (.b0 t3 2) 0,
 i 6 (.load false 1 t5) 1,
 i 7 (.b0 t2 1) 0,
 i 8 (.load false 1 t7) 4,
 i 9 (.bin .geq t6 t8) 15,
 i 10 (mv t9) 31,
 ig 11 (.b0 t3 2) 10 true 63,
 ig 12 (.load false 1 C1) 10 true 127,
 ig 13 (.b0 t2 2) 10 true 63,
 ig 14 (.load false 1 H6) 10 true 319,
 ig 15 (.bin .leq E3 L7) 10 true 1023,
 i 16 (.pick A7 P9 (.c (.pv (.bool false)))) 2047,
 i 4 (mv M4) 4095] false)
 .ret)⟩
def K0:x4:=⟨2,19,[.tmp 4],
 .seq (.b9 [i 2 (.box 6 t0) 0,
 i 3 (.box 7 t1) 0,
 i 4 (.mv (.c (.pv (.bool false)))) 0] false)
 (.seq (.b9 [i 5 (.b0 t3 3) 0,
 i 6 (.load false 1 t5) 1,
 i 7 (.N6 t6) 3,
 i 8 (.b0 t2 3) 0,
 i 9 (.load false 1 t8) 8,
 i 10 (.bin .geq t7 t9) 31,
 i 11 (mv A7) 63,
 ig 12 (.b0 t3 3) 11 true 127,
 ig 13 (.load false 1 E3) 11 true 255,
 ig 14 (.N6 H6) 11 true 511,
 ig 15 (.b0 t2 4) 11 true 127,
 ig 16 (.load false 1 P9) 11 true 1151,
 ig 17 (.bin .leq L7 M4) 11 true 4095,
 i 18 (.pick C1 M5 (.c (.pv (.bool false)))) 8191,
 i 4 (mv P4) 16383] false)
 .ret)⟩
def D9:x4:=⟨2,57,[.tmp 4],
 .seq (.b9 [i 2 (.box 6 t0) 0,
 i 3 (.box 7 t1) 0,
 i 4 (.mv (.c (.pv (.bool false)))) 0] false)
 (.seq (.seq (.b9 [i 6 (.b0 t2 5) 0,
 i 7 (.load false 1 t6) 1,
 i 8 (.bin .eql t7 (.c (I 0))) 3] false)
 (.cond t8
 (.seq (.b9 [i 9 (.b0 t3 4) 0,
 i 10 (.load false 1 t9) 1,
 i 11 (.bin .eql A7 (.c (I 0))) 3,
 i 12 (mv C1) 7,
 ig 13 (.b0 t3 5) 12 true 15,
 ig 14 (.load false 1 H6) 12 true 31,
 ig 15 (.bin .eql L7 (.c (I 0))) 12 true 63,
 i 16 (.pick E3 P9 (.c (.pv (.bool false)))) 127,
 i 17 (mv M4) 255,
 ig 18 (.b0 t3 6) 17 true 511,
 ig 19 (.load false 1 P4) 17 true 1023,
 ig 20 (.bin .eql R5 (.c (I 0))) 17 true 2047,
 i 21 (.pick M5 U9 (.c (.pv (.bool false)))) 4095,
 i 4 (mv T8) 8191] false)
 .ret)
 .skip))
 (.seq (.b9 [i 22 (.load true 6 t2) 0,
 i 23 (.call (.f z6) [Z4]) 1,
 i 5 (mv t23) 3] false)
 (.seq (.b9 [i 24 (.b0 t3 4) 0,
 i 25 (.load false 1 t24) 1,
 i 26 (.bin .geq t25 (.c (I 0))) 3,
 i 27 (mv t26) 7,
 ig 28 (.b0 t3 4) 27 true 15,
 ig 29 (.load false 1 t28) 27 true 31,
 ig 30 (.bin .leq t29 (.c (I 20000))) 27 true 63,
 i 31 (.pick t27 t30 (.c (.pv (.bool false)))) 127,
 i 32 (mv t31) 255,
 ig 33 (.b0 t3 5) 32 true 511,
 ig 34 (.load false 1 t33) 32 true 1023,
 ig 35 (.bin .geq t34 (.c (I 0))) 32 true 2047,
 i 36 (.pick t32 t35 (.c (.pv (.bool false)))) 4095,
 i 37 (mv t36) 8191,
 ig 38 (.b0 t3 6) 37 true 16383,
 ig 39 (.load false 1 t38) 37 true 32767,
 ig 40 (.bin .geq t39 (.c (I 0))) 37 true 65535,
 i 41 (.pick t37 t40 (.c (.pv (.bool false)))) 131071,
 i 42 (mv t41) 262143,
 ig 43 (.b0 t3 5) 42 true 524287,
 ig 44 (.load false 1 t43) 42 true 1048575,
 ig 45 (mv t5) 42 true 524287,
 ig 46 (.bin .leq t44 t45) 42 true 4194303,
 i 47 (.pick t42 t46 (.c (.pv (.bool false)))) 8388607,
 i 48 (mv t47) 16777215,
 ig 49 (.b0 t3 6) 48 true 33554431,
 ig 50 (.load false 1 t49) 48 true 67108863,
 ig 51 (mv t5) 48 true 33554431,
 ig 52 (.b0 t3 5) 48 true 33554431,
 ig 53 (.load false 1 t52) 48 true 301989887,
 ig 54 (.bin .sub t51 t53) 48 true 973078527,
 ig 55 (.bin .leq t50 t54) 48 true 2147483647,
 i 56 (.pick t48 t55 (.c (.pv (.bool false)))) 4294967295,
 i 4 (mv t56) 8589934591] false)
 .ret)))⟩
def a0e:x4:=⟨1,16,[.tmp 2,.tmp 3],
 .seq (.b9 [i 1 (.box 7 t0) 0,
 i 2 (.mv (.c (I 0))) 0,
 i 3 (.mv (.c (I 0))) 2] false)
 (.seq (.b9 [i 7 (.load true 7 t1) 0,
 i 8 (.call (.f B0) [t7]) 1,
 i 6 (mv t8) 3,
 i 9 (.extract t6 0) 7,
 i 10 (.extract t6 1) 7,
 i 4 (.alloc z0) 0,
 iz (.store 7 t4 t9) 47,
 i 5 (mv A7) 127] false)
 (.seq (.seq (.b9 [i 11 (mv t5) 0,
 i 12 (.bin .neq C1 (.c (I 0))) 1] false)
 (.cond E3
 (.seq (.b9 [i 13 (mv t5) 0,
 i 2 (.mv (.c (I 0))) 0,
 i 3 (mv H6) 3] false)
 .ret)
 .skip))
 (.seq (.b9 [i 14 (.load true 7 t4) 0,
 i 15 (.call (.f x1) [L7]) 1,
 i 2 (mv P9) 3,
 i 3 (.mv (.c (I 0))) 7] false)
 .ret)))⟩
def C4:x4:=⟨2,29,[],
 .seq (.b9 [i 7 (.b0 t1 2) 0,
 i 8 (.load false 1 t7) 1,
 i 9 (.b0 t1 3) 0,
 i 10 (.load false 1 t9) 4,
 i 11 (.b0 t1 4) 0,
 i 12 (.load false 1 C1) 16,
 i 13 (.build [.emp 7,.emp 7,.emp 7] [(0,1,t8),(1,1,A7),(2,1,E3)]) 63,
 i 14 (.mv (.c (I 0))) 0] false)
 (.block 0
 (.loop [0,13,14]
 (.seq (.b9 [i 15 (.bin .lss L7 (.c (I 3))) 0] false)
 (.seq (.cond P9
 .skip
 (.exit 0))
 (.seq (.block 1
 (.seq (.b9 [i 16 (.index false 3 1 H6 L7) 0,
 i 4 (mv M4) 1] false)
 (.seq (.b9 [i 17 (mv t4) 0,
 i 18 (.q0 M5) 1,
 i 19 (.mv (.c (I 0))) 0] false)
 (.block 2
 (.loop [0,13,14,17,18,19]
 (.seq (.b9 [i 20 (.bin .lss R5 P4) 0] false)
 (.seq (.cond U9
 .skip
 (.exit 2))
 (.seq (.block 3
 (.seq (.b9 [i 21 (.o9 7 M5 R5) 0,
 i 22 (.load true 7 T8) 1,
 i 6 (.alloc z0) 0,
 iz (.store 7 t6 Z4) 7] false)
 (.seq (.b9 [i 23 (mv t0) 0,
 i 24 (.load true 7 t6) 0,
 i 25 (.call t23 [t24]) 3,
 i 26 (.not t25) 7] false)
 (.cond t26
 .ret
 .skip))))
 (.b9 [i 27 (.bin .add R5 (.c (I 1))) 0,
 i 19 (mv t27) 1] false)))))))))
 (.b9 [i 28 (.bin .add L7 (.c (I 1))) 0,
 i 14 (mv t28) 1] false))))))⟩
def a0R:x4:=⟨2,26,[.tmp 4],
 .seq (.b9 [i 3 (.box 7 t1) 0,
 i 4 (.mv (.c (.pv (.bool false)))) 0] false)
 (.scope
 (.seq (.b9 [i 5 (.mv (.c (.pv (.bool true)))) 0] false)
 (.seq .skip
 (.seq (.seq (.b9 [i 8 (.build [.pv (.str []),.pv .nilFunc] [(0,1,.c (.pv (.str [70,111,110,116]))),(1,1,.f y6)]) 0,
 i 9 (.build [.pv (.str []),.pv .nilFunc] [(0,1,.c (.pv (.str [80,97,116,116,101,114,110]))),(1,1,.f y6)]) 0,
 i 10 (.build [.pv (.str []),.pv .nilFunc] [(0,1,.c (.pv (.str [70,111,114,109]))),(1,1,.f y6)]) 0,
 i 11 (.build [.pv (.str []),.pv .nilFunc] [(0,1,.c (.pv (.str [69,110,99,111,100,105,110,103]))),(1,1,.f C5)]) 0,
 i 12 (.build [.pv (.str []),.pv .nilFunc,.pv (.str []),.pv .nilFunc,.pv (.str []),.pv .nilFunc,.pv (.str []),.pv .nilFunc] [(0,2,t8),(2,2,t9),(4,2,A7),(6,2,C1)]) 15,
 i 13 (.mv (.c (I 0))) 0] false)
 (.block 0
 (.loop [0,3,5,12,13]
 (.seq (.b9 [i 14 (.bin .lss H6 (.c (I 4))) 0] false)
 (.seq (.cond L7
 .skip
 (.exit 0))
 (.seq (.block 1
 (.seq (.b9 [i 15 (.index true 4 2 E3 H6) 0,
 i 7 (.alloc [.pv (.str []),.pv .nilFunc]) 0,
 iz (.store 2 t7 P9) 3] false)
 (.seq (.b9 [i 16 (.b0 t7 0) 0,
 i 17 (.load false 1 M4) 1,
 i 18 (mv t0) 0,
 i 19 (.bin .eql M5 P4) 7] false)
 (.cond R5
 (.seq (.b9 [i 20 (.b0 t7 1) 0,
 i 21 (.load false 1 U9) 1,
 i 22 (.load true 7 t3) 0,
 i 23 (.call T8 [Z4]) 7,
 i 5 (mv t23) 15] false)
 (.exit 0))
 .skip))))
 (.b9 [i 24 (.bin .add H6 (.c (I 1))) 0,
 i 13 (mv t24) 1] false)))))))
 (.seq (.b9 [i 25 (mv t5) 0,
 i 4 (mv t25) 1] false)
 .ret)))))⟩
def K4:x4:=⟨4,40,[.cell 8 true 67,.tmp 9],
 .seq (.b9 [i 4 (.box 67 t0) 0,
 i 5 (.box 29 t1) 0,
 i 8 (.alloc z1) 0,
 i 9 (.mv (.c (I 0))) 0] false)
 (.seq (.b9 [i 14 (.b0 t4 0) 0,
 i 15 (.load true 67 L7) 1,
 i 16 (.b0 t5 28) 0,
 i 17 (.load false 1 M4) 4,
 i 18 (.call (.f S8) [P9,M5]) 15,
 i 13 (mv P4) 31,
 i 19 (.extract H6 0) 63,
 i 20 (.extract H6 1) 63,
 i 10 (.alloc z1) 0,
 iz (.store 67 A7 R5) 383,
 i 11 (mv U9) 1023] false)
 (.seq (.seq (.b9 [i 21 (mv C1) 0,
 i 22 (.bin .neq T8 (.c (I 0))) 1] false)
 (.cond Z4
 (.seq (.b9 [i 23 (.b0 t4 0) 0,
 i 24 (.load true 67 t23) 1,
 i 25 (mv C1) 0,
 iz (.store 67 t8 t24) 3,
 i 9 (mv t25) 15] false)
 .ret)
 .skip))
 (.seq (.b9 [i 27 (.load true 67 A7) 0,
 i 28 (mv t3) 0,
 i 29 (.call (.f S9) [t27,t28]) 3,
 i 26 (mv t29) 7,
 i 30 (.extract t26 0) 15,
 i 31 (.extract t26 1) 15,
 i 12 (.alloc z1) 0,
 iz (.store 67 E3 t30) 95,
 i 11 (mv t31) 255] false)
 (.seq (.seq (.b9 [i 32 (mv C1) 0,
 i 33 (.bin .neq t32 (.c (I 0))) 1] false)
 (.cond t33
 (.seq (.b9 [i 34 (.b0 t4 0) 0,
 i 35 (.load true 67 t34) 1,
 i 36 (mv C1) 0,
 iz (.store 67 t8 t35) 3,
 i 9 (mv t36) 15] false)
 .ret)
 .skip))
 (.seq (.b9 [i 37 (mv t2) 0,
 i 38 (.b0 E3 2) 1,
 iz (.store 1 t38 t37) 3] false)
 (.seq (.b9 [i 39 (.load true 67 E3) 0,
 iz (.store 67 t8 t39) 1,
 i 9 (.mv (.c (I 0))) 3] false)
 .ret))))))⟩
def G3:x4:=⟨2,9,[.tmp 4],
 .seq (.b9 [i 4 (.mv (.c (.pv (.bool false)))) 0] false)
 (.seq (.b9 [i 5 (mv t0) 0,
 i 6 (mv t1) 0,
 i 7 (.call (.f C6) [t5,t6]) 3,
 i 8 (.bin .geq t7 (.c (I 0))) 7,
 i 4 (mv t8) 15] false)
 .ret)⟩
def a0d:x4:=⟨1,20,[.cell 2 true 7,.tmp 3],
 .seq (.b9 [i 1 (.box 7 t0) 0,
 i 2 (.alloc z0) 0,
 i 3 (.mv (.c (I 0))) 0] false)
 (.seq (.b9 [i 7 (.load true 7 t1) 0,
 i 8 (.call (.f D4) [t7]) 1,
 i 6 (mv t8) 3,
 i 9 (.extract t6 0) 7,
 i 10 (.extract t6 1) 7,
 i 4 (mv t9) 15,
 i 5 (mv A7) 63] false)
 (.seq (.seq (.b9 [i 11 (mv t5) 0,
 i 12 (.bin .neq C1 (.c (I 0))) 1] false)
 (.cond E3
 (.seq (.b9 [i 13 (.build z0 []) 0,
 i 14 (mv t5) 0,
 iz (.store 7 t2 H6) 1,
 i 3 (mv L7) 7] false)
 .ret)
 .skip))
 (.seq (.b9 [i 15 (mv t4) 0,
 i 16 (.bin .quo P9 (.c (I 65536))) 1,
 i 17 (.call (.f S6) [M4]) 3,
 i 18 (.extract M5 0) 7,
 i 19 (.extract M5 1) 7,
 iz (.store 7 t2 P4) 31,
 i 3 (mv R5) 63] false)
 .ret)))⟩
def I1:x4:=⟨2,15,[.cell 4 true 7,.tmp 5],
 .seq (.b9 [i 4 (.alloc z0) 0,
 i 5 (.mv (.c (I 0))) 0] false)
 (.seq (.b9 [i 7 (mv t1) 0,
 i 8 (mv t0) 0,
 i 9 (.call t7 [t8]) 3,
 i 6 (.alloc z0) 0,
 iz (.store 7 t6 t9) 15] false)
 (.seq (.seq (.b9 [i 10 (.load true 7 t6) 0,
 i 11 (.call (.f u4) [A7]) 1,
 i 12 (.bin .neq C1 (.c (I 0))) 3] false)
 (.cond E3
 (.seq (.b9 [i 13 (.build z0 []) 0,
 iz (.store 7 t4 H6) 1,
 i 5 (.mv (.c (I 2))) 3] false)
 .ret)
 .skip))
 (.seq (.b9 [i 14 (.load true 7 t6) 0,
 iz (.store 7 t4 L7) 1,
 i 5 (.mv (.c (I 0))) 3] false)
 .ret)))⟩
def W2:x4:=⟨2,7,[.cell 3 true 7],
 .seq (.b9 [i 3 (.alloc z0) 0] false)
 (.seq (.b9 [i 4 (mv t0) 0,
 i 5 (.load false 1 t1) 0,
 i 6 (.build z0 [(0,1,.c (I 5)),(3,1,t4),(1,1,t5)]) 3,
 iz (.store 7 t3 t6) 7] false)
 .ret)⟩
def G1:x4:=⟨1,7,[.tmp 2],
 .seq (.b9 [i 1 (.box 6 t0) 0,
 i 2 (.mv (.c (I 0))) 0] false)
 (.seq (.b9 [i 3 (.build [I 0,I 0,I 0,I 0] [(0,1,.c (I 0)),(1,1,.c (I 1000)),(2,1,.c (I 1000)),(3,1,.c (I 0))]) 0,
 i 4 (.b0 t1 5) 0,
 i 5 (.load false 1 t4) 2,
 i 6 (.index false 4 1 t3 t5) 7,
 i 2 (mv t6) 15] false)
 .ret)⟩
def P6:x4:=⟨1,22,[.cell 2 true 7,.tmp 3],
 .seq (.b9 [i 1 (.box 7 t0) 0,
 i 2 (.alloc z0) 0,
 i 3 (.mv (.c (I 0))) 0] false)
 (.seq (.seq (.b9 [i 5 (.load true 7 t1) 0,
 i 6 (.call (.f u4) [t5]) 1,
 i 4 (mv t6) 3] false)
 (.seq (.b9 [i 7 (mv t4) 0,
 i 8 (.bin .neq t7 (.c (I 0))) 1] false)
 (.cond t8
 (.seq (.b9 [i 9 (.build z0 []) 0,
 i 10 (mv t4) 0,
 iz (.store 7 t2 t9) 1,
 i 3 (mv A7) 7] false)
 .ret)
 .skip)))
 (.seq (.seq (.b9 [i 11 (.b0 t1 0) 0,
 i 12 (.load false 1 C1) 1,
 i 13 (.bin .neq E3 (.c (I 3))) 3,
 i 14 (mv H6) 7,
 ig 15 (.b0 t1 0) 14 true 15,
 ig 16 (.load false 1 P9) 14 true 31,
 ig 17 (.bin .neq M4 (.c (I 4))) 14 true 63,
 i 18 (.pick L7 M5 (.c (.pv (.bool false)))) 127] false)
 (.cond P4
 (.seq (.b9 [i 19 (.build z0 []) 0,
 iz (.store 7 t2 R5) 1,
 i 3 (.mv (.c (I 22))) 3] false)
 .ret)
 .skip))
 (.seq (.b9 [i 20 (.load true 7 t1) 0,
 i 21 (.build z0 [(0,7,U9)]) 1,
 iz (.store 7 t2 T8) 3,
 i 3 (.mv (.c (I 0))) 7] false)
 .ret)))⟩
def G2:x4:=⟨1,14,[.tmp 2],
 .seq (.b9 [i 1 (.box 7 t0) 0,
 i 2 (.mv (.c (I 0))) 0] false)
 (.seq (.seq (.b9 [i 3 (.b0 t1 0) 0,
 i 4 (.b0 t3 0) 1,
 i 5 (.load false 1 t4) 3,
 i 6 (.bin .eql t5 (.c (I 3))) 7] false)
 (.cond t6
 (.seq (.b9 [i 7 (.b0 t1 0) 0,
 i 8 (.b0 t7 2) 1,
 i 9 (.load false 1 t8) 3,
 i 10 (.bin .mul t9 (.c (I 65536))) 7,
 i 2 (mv A7) 15] false)
 .ret)
 .skip))
 (.seq (.b9 [i 11 (.b0 t1 0) 0,
 i 12 (.b0 C1 2) 1,
 i 13 (.load false 1 E3) 3,
 i 2 (mv H6) 7] false)
 .ret))⟩
def a0i:x4:=⟨1,6,[.tmp 2],
 .seq (.b9 [i 1 (.box 7 t0) 0,
 i 2 (.mv (.c (.pv (.bool false)))) 0] false)
 (.seq (.b9 [i 3 (.b0 t1 0) 0,
 i 4 (.load false 1 t3) 1,
 i 5 (.bin .eql t4 (.c (I 9))) 3,
 i 2 (mv t5) 7] false)
 .ret)⟩
def X4:x4:=⟨1,11,[.tmp 2],
 .seq (.b9 [i 1 (.box 7 t0) 0,
 i 2 (.mv (.c (.pv (.bool false)))) 0] false)
 (.seq (.b9 [i 3 (.b0 t1 0) 0,
 i 4 (.load false 1 t3) 1,
 i 5 (.bin .eql t4 (.c (I 7))) 3,
 i 6 (mv t5) 7,
 ig 7 (.b0 t1 0) 6 false 15,
 ig 8 (.load false 1 t7) 6 false 31,
 ig 9 (.bin .eql t8 (.c (I 8))) 6 false 63,
 i 10 (.pick t6 (.c (.pv (.bool true))) t9) 127,
 i 2 (mv A7) 255] false)
 .ret)⟩
def M8:x4:=⟨2,19,[.tmp 4],
 .seq (.b9 [i 4 (.mv (.c (I 0))) 0] false)
 (.seq (.seq (.b9 [i 6 (mv t0) 0,
 i 7 (.q0 t6) 1,
 i 8 (.mv (.c (I 0))) 0] false)
 (.block 0
 (.loop [0,1,7,8]
 (.seq (.b9 [i 9 (.bin .lss t8 t7) 0] false)
 (.seq (.cond t9
 .skip
 (.exit 0))
 (.seq (.block 1
 (.seq (.b9 [i 10 (mv t8) 0,
 i 5 (mv A7) 1] false)
 (.seq (.b9 [i 11 (mv t1) 0,
 i 12 (mv t0) 0,
 i 13 (mv t5) 0,
 i 14 (.o9 1 E3 H6) 6,
 i 15 (.load false 1 L7) 14,
 i 16 (.bin .eql C1 P9) 31] false)
 (.cond M4
 (.seq (.b9 [i 17 (mv t5) 0,
 i 4 (mv M5) 1] false)
 .ret)
 .skip))))
 (.b9 [i 18 (.bin .add t8 (.c (I 1))) 0,
 i 8 (mv P4) 1] false)))))))
 (.seq (.b9 [i 4 (.mv (.c (I (-1)))) 0] false)
 .ret))⟩
def a2b:x4:=⟨1,8,[.cell 2 true 7,.tmp 3],
 .seq (.b9 [i 2 (.alloc z0) 0,
 i 3 (.mv (.c (I 0))) 0] false)
 (.seq (.b9 [i 4 (mv t0) 0,
 i 5 (.call (.f E0) [t4,.f F6]) 1,
 i 6 (.extract t5 0) 3,
 i 7 (.extract t5 1) 3,
 iz (.store 7 t2 t6) 15,
 i 3 (mv t7) 31] false)
 .ret)⟩
def P5:x4:=⟨2,15,[.cell 4 true 7,.tmp 5],
 .seq (.b9 [i 4 (.alloc z0) 0,
 i 5 (.mv (.c (I 0))) 0] false)
 (.seq (.b9 [i 7 (mv t1) 0,
 i 8 (mv t0) 0,
 i 9 (.call t7 [t8]) 3,
 i 6 (.alloc z0) 0,
 iz (.store 7 t6 t9) 15] false)
 (.seq (.seq (.b9 [i 10 (.load true 7 t6) 0,
 i 11 (.call (.f u4) [A7]) 1,
 i 12 (.bin .neq C1 (.c (I 0))) 3] false)
 (.cond E3
 (.seq (.b9 [i 13 (.build z0 []) 0,
 iz (.store 7 t4 H6) 1,
 i 5 (.mv (.c (I 2))) 3] false)
 .ret)
 .skip))
 (.seq (.b9 [i 14 (.load true 7 t6) 0,
 iz (.store 7 t4 L7) 1,
 i 5 (.mv (.c (I 0))) 3] false)
 .ret)))⟩
def a0c:x4:=⟨1,5,[.cell 2 true 7],
 .seq (.b9 [i 2 (.alloc z0) 0] false)
 (.seq (.b9 [i 3 (mv t0) 0,
 i 4 (.build z0 [(0,1,.c (I 3)),(2,1,t3)]) 1,
 iz (.store 7 t2 t4) 3] false)
 .ret)⟩
end Go.Ab.Td
namespace Go.Ab.Td
open Go.Ab
def c7x:TF:=(.node (.node (.node (.node (.node (.node (.leaf I7 a2W) (.leaf A8 a4z)) .nil) (.leaf a5f a7i)) (.node (.leaf L3 a0O) (.node (.leaf a2i a4A) (.node (.leaf V4 a3y) (.leaf I6 a1Y))))) (.node (.node .nil (.node (.leaf S7 a4H) (.leaf W6 a1L))) (.node (.node (.leaf B5 a2X) (.leaf i7 a0P)) (.node (.node (.leaf C2 a0F) (.leaf K2 U2)) (.leaf a2j a4B))))) (.node (.node (.node (.node (.node (.leaf C9 a1Z) (.leaf N3 a4E)) (.leaf O2 a3B)) (.node .nil (.node (.leaf B1 a0g) (.leaf E1 y5)))) .nil) (.node (.node (.node (.node (.leaf O1 a3w) (.leaf Q9 a5I)) (.leaf k7 a3D)) (.leaf F7 X3)) (.node (.leaf O4 a3C) (.node (.leaf a2k a4D) (.leaf A9 a4C))))))
def c7y:TF:=(.node (.node (.node (.node (.leaf p7 a1M) (.node (.node (.leaf x7 X5) (.leaf u4 a0b)) .nil)) (.node (.leaf L0 a2x) (.leaf B3 U1))) (.node (.node (.node (.leaf M3 a5J) (.leaf F4 a3A)) (.leaf J4 a1i)) (.node (.node (.leaf D3 Q3) (.leaf J5 a1k)) (.node (.node (.leaf x2 a2a) (.leaf S5 a0N)) .nil)))) (.node (.node (.node (.node (.leaf a0t a2y) (.leaf J6 a7j)) (.node (.node (.leaf s7 X6) (.leaf E6 W1)) .nil)) (.node (.leaf I9 a0a) (.node (.node (.leaf x6 M6) (.leaf A6 V1)) .nil))) (.node (.node (.node (.leaf F1 a4F) (.leaf Q8 Z9)) (.leaf s0 R9)) (.node (.leaf F5 X1) (.node (.node (.leaf n7 a4G) (.leaf V3 a3x)) (.leaf y1 a0Q))))))
def c7z:TF:=(.node (.node (.node (.node (.node (.leaf v7 G9) (.leaf N4 a2c)) (.node (.leaf r9 a0h) (.leaf V5 a3z))) (.node .nil (.node (.leaf u2 R7) (.leaf n4 P7)))) (.node (.node (.leaf v8 M7) (.node (.leaf x9 a1j) (.leaf i6 J3))) (.node (.leaf q8 D2) (.node (.leaf w7 R8) (.leaf v5 G7))))) (.node (.node (.node (.leaf O3 a1l) (.node (.leaf A1 a2d) (.leaf a6y a8I))) (.node (.leaf J0 a4I) (.node (.leaf I8 Q2) (.leaf l0 G6)))) (.node (.node (.leaf B4 K1) (.node (.leaf S1 a0M) (.node (.leaf S9 a4K) (.leaf H3 W3)))) (.node (.node .nil (.node (.leaf u6 K5) (.leaf S4 a8H))) (.node (.leaf B2 J9) (.leaf r7 G8))))))
def c7A:TF:=(.node (.node (.node (.node (.node (.leaf F6 a0c) (.leaf z7 G3)) (.leaf x1 G2)) (.node (.leaf L2 a0f) (.node (.leaf y0 C4) (.node (.leaf Y9 a5K) (.leaf C6 M8))))) (.node (.node (.leaf A4 I1) (.node (.leaf D4 a0e) (.leaf C5 X4))) (.node (.node (.leaf y4 K0) (.leaf z6 G1)) (.node (.leaf q9 K4) (.leaf S8 a4J))))) (.node (.node (.node (.leaf L1 a0d) (.leaf y6 a0i)) (.node (.leaf x5 H9) (.node (.leaf L4 a0R) (.leaf S6 a2b)))) (.node (.node (.node (.leaf C3 O8) (.leaf E7 W2)) .nil) (.node (.node (.leaf u5 D9) (.leaf B0 P6)) (.leaf E0 P5)))))
structure Laid (P:Program):Prop where
 mixed:P.follows .mixedOrders=true
 t0:c7x.all (i5 P)=true
 t1:c7y.all (i5 P)=true
 t2:c7z.all (i5 P)=true
 t3:c7A.all (i5 P)=true
variable {P:Program} (C:Laid P)
include C
theorem a0I:i5 P C2 a0F=true:=TF.i3 C.t0 _ _ rfl
theorem a4i:i5 P i7 a0P=true:=TF.i3 C.t0 _ _ rfl
theorem a3d:i5 P B1 a0g=true:=TF.i3 C.t0 _ _ rfl
theorem b1L:i5 P V4 a3y=true:=TF.i3 C.t0 _ _ rfl
theorem a8g:i5 P A8 a4z=true:=TF.i3 C.t0 _ _ rfl
theorem a8h:i5 P N3 a4E=true:=TF.i3 C.t0 _ _ rfl
theorem a9x:i5 P Q9 a5I=true:=TF.i3 C.t0 _ _ rfl
theorem a5T:i5 P B5 a2X=true:=TF.i3 C.t0 _ _ rfl
theorem b5t:i5 P a5f a7i=true:=TF.i3 C.t0 _ _ rfl
theorem a8j:i5 P S7 a4H=true:=TF.i3 C.t0 _ _ rfl
theorem a7s:i5 P F7 X3=true:=TF.i3 C.t0 _ _ rfl
theorem b3m:i5 P a2i a4A=true:=TF.i3 C.t0 _ _ rfl
theorem a6H:i5 P K2 U2=true:=TF.i3 C.t0 _ _ rfl
theorem b3o:i5 P a2k a4D=true:=TF.i3 C.t0 _ _ rfl
theorem b1N:i5 P O2 a3B=true:=TF.i3 C.t0 _ _ rfl
theorem V2:i5 P k7 a3D=true:=TF.i3 C.t0 _ _ rfl
theorem a4h:i5 P L3 a0O=true:=TF.i3 C.t0 _ _ rfl
theorem a8k:i5 P E1 y5=true:=TF.i3 C.t0 _ _ rfl
theorem a9O:i5 P W6 a1L=true:=TF.i3 C.t0 _ _ rfl
theorem a4Y:i5 P I6 a1Y=true:=TF.i3 C.t0 _ _ rfl
theorem b3n:i5 P a2j a4B=true:=TF.i3 C.t0 _ _ rfl
theorem a7r:i5 P A9 a4C=true:=TF.i3 C.t0 _ _ rfl
theorem a3b:i5 P I7 a2W=true:=TF.i3 C.t0 _ _ rfl
theorem a0p:i5 P C9 a1Z=true:=TF.i3 C.t0 _ _ rfl
theorem a3G:i5 P O1 a3w=true:=TF.i3 C.t0 _ _ rfl
theorem a6U:i5 P O4 a3C=true:=TF.i3 C.t0 _ _ rfl
theorem a2I:i5 P x7 X5=true:=TF.i3 C.t1 _ _ rfl
theorem a2J:i5 P s7 X6=true:=TF.i3 C.t1 _ _ rfl
theorem a6G:i5 P B3 U1=true:=TF.i3 C.t1 _ _ rfl
theorem Y1:i5 P x6 M6=true:=TF.i3 C.t1 _ _ rfl
theorem a4Z:i5 P x2 a2a=true:=TF.i3 C.t1 _ _ rfl
theorem a8i:i5 P n7 a4G=true:=TF.i3 C.t1 _ _ rfl
theorem a5w:i5 P p7 a1M=true:=TF.i3 C.t1 _ _ rfl
theorem b0U:i5 P J6 a7j=true:=TF.i3 C.t1 _ _ rfl
theorem a6T:i5 P F4 a3A=true:=TF.i3 C.t1 _ _ rfl
theorem a0s:i5 P s0 R9=true:=TF.i3 C.t1 _ _ rfl
theorem a4j:i5 P y1 a0Q=true:=TF.i3 C.t1 _ _ rfl
theorem b0T:i5 P a0t a2y=true:=TF.i3 C.t1 _ _ rfl
theorem b4v:i5 P M3 a5J=true:=TF.i3 C.t1 _ _ rfl
theorem b3p:i5 P F1 a4F=true:=TF.i3 C.t1 _ _ rfl
theorem a3c:i5 P I9 a0a=true:=TF.i3 C.t1 _ _ rfl
theorem a1B:i5 P D3 Q3=true:=TF.i3 C.t1 _ _ rfl
theorem a2B:i5 P F5 X1=true:=TF.i3 C.t1 _ _ rfl
theorem a2C:i5 P u4 a0b=true:=TF.i3 C.t1 _ _ rfl
theorem a1N:i5 P E6 W1=true:=TF.i3 C.t1 _ _ rfl
theorem a3H:i5 P J4 a1i=true:=TF.i3 C.t1 _ _ rfl
theorem a3J:i5 P A6 V1=true:=TF.i3 C.t1 _ _ rfl
theorem a8T:i5 P S5 a0N=true:=TF.i3 C.t1 _ _ rfl
theorem b1K:i5 P V3 a3x=true:=TF.i3 C.t1 _ _ rfl
theorem a5U:i5 P Q8 Z9=true:=TF.i3 C.t1 _ _ rfl
theorem a5V:i5 P L0 a2x=true:=TF.i3 C.t1 _ _ rfl
theorem a6S:i5 P J5 a1k=true:=TF.i3 C.t1 _ _ rfl
theorem b7q:i5 P S4 a8H=true:=TF.i3 C.t2 _ _ rfl
theorem b1M:i5 P V5 a3z=true:=TF.i3 C.t2 _ _ rfl
theorem b7r:i5 P a6y a8I=true:=TF.i3 C.t2 _ _ rfl
theorem C8:i5 P i6 J3=true:=TF.i3 C.t2 _ _ rfl
theorem a1P:i5 P H3 W3=true:=TF.i3 C.t2 _ _ rfl
theorem I5:i5 P n4 P7=true:=TF.i3 C.t2 _ _ rfl
theorem B9:i5 P l0 G6=true:=TF.i3 C.t2 _ _ rfl
theorem T6:i5 P v5 G7=true:=TF.i3 C.t2 _ _ rfl
theorem H0:i5 P r7 G8=true:=TF.i3 C.t2 _ _ rfl
theorem T7:i5 P v7 G9=true:=TF.i3 C.t2 _ _ rfl
theorem a2h:i5 P r9 a0h=true:=TF.i3 C.t2 _ _ rfl
theorem a5c:i5 P A1 a2d=true:=TF.i3 C.t2 _ _ rfl
theorem a1p:i5 P x9 a1j=true:=TF.i3 C.t2 _ _ rfl
theorem a8S:i5 P S1 a0M=true:=TF.i3 C.t2 _ _ rfl
theorem a1a:i5 P u2 R7=true:=TF.i3 C.t2 _ _ rfl
theorem a5W:i5 P I8 Q2=true:=TF.i3 C.t2 _ _ rfl
theorem a1b:i5 P w7 R8=true:=TF.i3 C.t2 _ _ rfl
theorem U4:i5 P B2 J9=true:=TF.i3 C.t2 _ _ rfl
theorem a5b:i5 P N4 a2c=true:=TF.i3 C.t2 _ _ rfl
theorem a3I:i5 P O3 a1l=true:=TF.i3 C.t2 _ _ rfl
theorem Y2:i5 P v8 M7=true:=TF.i3 C.t2 _ _ rfl
theorem a1W:i5 P B4 K1=true:=TF.i3 C.t2 _ _ rfl
theorem a8l:i5 P J0 a4I=true:=TF.i3 C.t2 _ _ rfl
theorem M1:i5 P q8 D2=true:=TF.i3 C.t2 _ _ rfl
theorem Y8:i5 P u6 K5=true:=TF.i3 C.t2 _ _ rfl
theorem a8n:i5 P S9 a4K=true:=TF.i3 C.t2 _ _ rfl
theorem a5X:i5 P Y9 a5K=true:=TF.i3 C.t3 _ _ rfl
theorem a8m:i5 P S8 a4J=true:=TF.i3 C.t3 _ _ rfl
theorem a0J:i5 P C3 O8=true:=TF.i3 C.t3 _ _ rfl
theorem a2G:i5 P L2 a0f=true:=TF.i3 C.t3 _ _ rfl
theorem Q6:i5 P x5 H9=true:=TF.i3 C.t3 _ _ rfl
theorem U5:i5 P y4 K0=true:=TF.i3 C.t3 _ _ rfl
theorem K8:i5 P u5 D9=true:=TF.i3 C.t3 _ _ rfl
theorem a2F:i5 P D4 a0e=true:=TF.i3 C.t3 _ _ rfl
theorem a0Z:i5 P y0 C4=true:=TF.i3 C.t3 _ _ rfl
theorem a4k:i5 P L4 a0R=true:=TF.i3 C.t3 _ _ rfl
theorem Y7:i5 P q9 K4=true:=TF.i3 C.t3 _ _ rfl
theorem P1:i5 P z7 G3=true:=TF.i3 C.t3 _ _ rfl
theorem a2E:i5 P L1 a0d=true:=TF.i3 C.t3 _ _ rfl
theorem Q7:i5 P A4 I1=true:=TF.i3 C.t3 _ _ rfl
theorem a1O:i5 P E7 W2=true:=TF.i3 C.t3 _ _ rfl
theorem O9:i5 P z6 G1=true:=TF.i3 C.t3 _ _ rfl
theorem a0r:i5 P B0 P6=true:=TF.i3 C.t3 _ _ rfl
theorem P0:i5 P x1 G2=true:=TF.i3 C.t3 _ _ rfl
theorem a3e:i5 P y6 a0i=true:=TF.i3 C.t3 _ _ rfl
theorem a2H:i5 P C5 X4=true:=TF.i3 C.t3 _ _ rfl
theorem Y3:i5 P C6 M8=true:=TF.i3 C.t3 _ _ rfl
theorem a5a:i5 P S6 a2b=true:=TF.i3 C.t3 _ _ rfl
theorem a0q:i5 P E0 P5=true:=TF.i3 C.t3 _ _ rfl
theorem a2D:i5 P F6 a0c=true:=TF.i3 C.t3 _ _ rfl
end Go.Ab.Td
