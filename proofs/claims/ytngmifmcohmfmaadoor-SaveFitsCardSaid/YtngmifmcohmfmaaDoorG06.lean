/- A part of the proof: the texts TdNm, TdCd0, TdTb. Under: nothing. -/
import Derived.Test.YtngmifmcohmfmaaDoorG05
set_option linter.unusedVariables false
namespace Go.Ab.Td
abbrev a1I:Nat:=12
abbrev R4:Nat:=15
abbrev a1U:Nat:=16
abbrev a4m:Nat:=17
abbrev q0:Nat:=18
abbrev B2:Nat:=19
abbrev i7:Nat:=20
abbrev L7:Nat:=21
abbrev e9:Nat:=22
abbrev V9:Nat:=23
abbrev C7:Nat:=24
abbrev o5:Nat:=25
abbrev a3g:Nat:=26
abbrev a1Z:Nat:=27
abbrev Y5:Nat:=28
abbrev K3:Nat:=32
abbrev F7:Nat:=33
abbrev a1V:Nat:=34
abbrev O4:Nat:=35
abbrev a1a:Nat:=36
abbrev A6:Nat:=38
abbrev a6c:Nat:=40
abbrev Q0:Nat:=42
abbrev H6:Nat:=43
abbrev a3d:Nat:=44
abbrev M4:Nat:=46
abbrev a3f:Nat:=47
abbrev Y7:Nat:=49
abbrev R5:Nat:=51
abbrev G1:Nat:=52
abbrev o6:Nat:=57
abbrev J2:Nat:=58
abbrev P7:Nat:=60
abbrev a3e:Nat:=62
abbrev a0s:Nat:=63
abbrev U4:Nat:=64
abbrev P8:Nat:=65
abbrev a1S:Nat:=67
abbrev Y8:Nat:=68
abbrev L8:Nat:=71
abbrev k7:Nat:=72
abbrev m7:Nat:=73
abbrev a1X:Nat:=75
abbrev F2:Nat:=76
abbrev C6:Nat:=77
abbrev V8:Nat:=78
abbrev s9:Nat:=79
abbrev R1:Nat:=80
abbrev a3H:Nat:=81
abbrev a1T:Nat:=82
abbrev R3:Nat:=83
abbrev L0:Nat:=84
abbrev u4:Nat:=85
abbrev Z1:Nat:=86
abbrev a0y:Nat:=87
abbrev W2:Nat:=88
abbrev W3:Nat:=89
abbrev Z0:Nat:=90
abbrev K7:Nat:=91
abbrev x4:Nat:=92
abbrev l5:Nat:=93
abbrev u0:Nat:=94
abbrev u7:Nat:=95
abbrev C8:Nat:=96
abbrev a0Z:Nat:=97
abbrev O5:Nat:=98
abbrev F8:Nat:=99
abbrev K4:Nat:=101
abbrev D9:Nat:=102
abbrev H3:Nat:=103
abbrev o4:Nat:=104
abbrev B5:Nat:=105
abbrev G0:Nat:=106
abbrev K5:Nat:=108
abbrev u6:Nat:=109
abbrev W0:Nat:=110
abbrev Y4:Nat:=111
abbrev U5:Nat:=115
abbrev N6:Nat:=116
abbrev L6:Nat:=118
abbrev V7:Nat:=119
abbrev Y6:Nat:=120
abbrev a7B:Nat:=121
abbrev D4:Nat:=122
abbrev R0:Nat:=123
abbrev K9:Nat:=124
abbrev B7:Nat:=125
abbrev B8:Nat:=126
abbrev B9:Nat:=127
abbrev C0:Nat:=128
abbrev m8:Nat:=136
abbrev y2:Nat:=137
abbrev A2:Nat:=138
abbrev N7:Nat:=139
abbrev o9:Nat:=140
abbrev D8:Nat:=141
abbrev y1:Nat:=142
abbrev F1:Nat:=143
abbrev P9:Nat:=144
abbrev Y9:Nat:=145
abbrev u1:Nat:=146
abbrev F4:Nat:=147
abbrev K8:Nat:=149
abbrev s7:Nat:=150
abbrev w7:Nat:=151
abbrev a1Y:Nat:=152
abbrev K6:Nat:=153
abbrev a1W:Nat:=154
abbrev D5:Nat:=155
abbrev O6:Nat:=156
abbrev n8:Nat:=157
abbrev Q2:Nat:=158
abbrev J3:Nat:=159
abbrev F3:Nat:=160
abbrev C4:Nat:=163
abbrev H5:Nat:=164
abbrev r9:Nat:=165
abbrev u9:Nat:=166
abbrev n7:Nat:=167
abbrev E0:Nat:=170
abbrev y0:Nat:=172
abbrev W4:Nat:=173
abbrev p7:Nat:=174
abbrev z8:Nat:=176
abbrev N8:Nat:=177
abbrev E1:Nat:=178
abbrev Q9:Nat:=179
abbrev y7:Nat:=180
abbrev n5:Nat:=181
abbrev v8:Nat:=182
abbrev B1:Nat:=183
abbrev v9:Nat:=184
abbrev E5:Nat:=185
abbrev Q1:Nat:=186
abbrev C9:Nat:=188
abbrev W1:Nat:=189
abbrev B3:Nat:=190
abbrev E4:Nat:=191
abbrev H4:Nat:=192
open Go Go.Ab
abbrev I (n:Int):AV:=.pv (.int .i64 n)
abbrev z0:List AV:=[I 0,.pv (.bool false),I 0,.pv (.str []),I 0,I 0,I 0]
abbrev z1:List AV:=[.emp 7,.emp 7,.emp 7,.emp 3,I 0,I 0,I 0,I 0,I 0,I 0,I 0,.emp 7,I 0,I 0,I 0,I 0,I 0,I 0,I 0,I 0,I 0,I 0,I 0,I 0,I 0,I 0,I 0,I 0,I 0,I 0,I 0,I 0,.pv (.bool false),.pv (.bool false),.emp 47,I 0,I 0,I 0,I 0,I 0,I 0,I 0,I 0,.emp 1,I 0,I 0,.emp 2,I 0,.pv (.bool false),I 0,.pv (.str []),I 0,I 0,I 0,I 0,I 0,I 0,I 0,I 0,I 0,I 0,I 0,.emp 57,.emp 47,.emp 3,.pv (.str []),I 0]
abbrev z2:List AV:=[I 0,.pv (.str []),.emp 7,.emp 7,.emp 7,I 0,I 0]
abbrev z3:List AV:=[I 0,.pv (.bool false),I 0,.pv (.str []),I 0,I 0,I 0,I 0,.pv (.bool false),I 0,.pv (.str []),I 0,I 0,I 0,I 0,.pv (.bool false),I 0,.pv (.str []),I 0,I 0,I 0,I 0,.pv (.bool false),I 0,.pv (.str []),I 0,I 0,I 0,I 0]
abbrev z4:List AV:=[I 0,I 0,I 0,I 0,I 0,I 0,.emp 7,I 0,I 0,I 0,I 0,I 0,I 0,I 0,I 0,I 0,I 0,I 0,I 0,I 0,I 0,I 0,I 0,I 0,I 0,I 0,I 0,.pv (.bool false),.pv (.bool false),.emp 47,I 0,I 0,I 0,I 0,I 0,I 0,I 0,I 0,.emp 1,I 0,I 0,.emp 2,I 0,.pv (.bool false),I 0,.pv (.str []),I 0,I 0,I 0,I 0,I 0,I 0,I 0,I 0,I 0,I 0,I 0]
abbrev z5:List AV:=[.pv (.str []),I 0,I 0,I 0,I 0,I 0,.pv (.str []),I 0,I 0,I 0,I 0,I 0,.pv (.str []),I 0,I 0,I 0,I 0,I 0,.pv (.str []),I 0,I 0,I 0,I 0,I 0,.pv (.str []),I 0,I 0,I 0,I 0,I 0,.pv (.str []),I 0,I 0,I 0,I 0,I 0,.pv (.str []),I 0,I 0,I 0,I 0,I 0,.pv (.str []),I 0,I 0,I 0,I 0,I 0,.pv (.str []),I 0,I 0,I 0,I 0,I 0,.pv (.str []),I 0,I 0,I 0,I 0,I 0,.pv (.str []),I 0,I 0,I 0,I 0,I 0,.pv (.str []),I 0,I 0,I 0,I 0,I 0,.pv (.str []),I 0,I 0,I 0,I 0,I 0]
abbrev i (d:Nat) (o:ROp) (p:Nat):n9:=⟨some d,o,none,p⟩
abbrev ig (d:Nat) (o:ROp) (g:Nat) (b:Bool) (p:Nat):n9:=⟨some d,o,some (g,b),p⟩
abbrev iz (o:ROp) (p:Nat):n9:=⟨none,o,none,p⟩
abbrev mv (a:RA):ROp:=.mv a
abbrev t0:RA:=.t 0
abbrev t1:RA:=.t 1
abbrev t2:RA:=.t 2
abbrev t3:RA:=.t 3
abbrev t4:RA:=.t 4
abbrev t5:RA:=.t 5
abbrev t6:RA:=.t 6
abbrev t7:RA:=.t 7
abbrev t8:RA:=.t 8
abbrev t9:RA:=.t 9
abbrev u2:RA:=.t 10
abbrev w8:RA:=.t 11
abbrev z9:RA:=.t 12
abbrev B0:RA:=.t 13
abbrev D1:RA:=.t 14
abbrev G4:RA:=.t 15
abbrev G5:RA:=.t 16
abbrev E9:RA:=.t 17
abbrev I4:RA:=.t 18
abbrev M0:RA:=.t 19
abbrev O1:RA:=.t 20
abbrev M6:RA:=.t 21
abbrev R8:RA:=.t 22
abbrev V1:RA:=.t 23
abbrev X8:RA:=.t 24
abbrev X6:RA:=.t 25
abbrev t26:RA:=.t 26
abbrev t27:RA:=.t 27
abbrev t28:RA:=.t 28
abbrev t29:RA:=.t 29
abbrev t30:RA:=.t 30
abbrev t31:RA:=.t 31
abbrev t32:RA:=.t 32
abbrev t33:RA:=.t 33
abbrev t34:RA:=.t 34
abbrev t35:RA:=.t 35
abbrev t36:RA:=.t 36
abbrev t37:RA:=.t 37
abbrev t38:RA:=.t 38
abbrev t39:RA:=.t 39
abbrev t40:RA:=.t 40
abbrev t41:RA:=.t 41
abbrev t42:RA:=.t 42
abbrev t43:RA:=.t 43
abbrev t44:RA:=.t 44
abbrev t45:RA:=.t 45
abbrev t46:RA:=.t 46
abbrev t47:RA:=.t 47
abbrev t48:RA:=.t 48
abbrev t49:RA:=.t 49
abbrev t50:RA:=.t 50
abbrev t51:RA:=.t 51
abbrev t52:RA:=.t 52
abbrev t53:RA:=.t 53
abbrev t54:RA:=.t 54
abbrev t55:RA:=.t 55
abbrev t56:RA:=.t 56
abbrev t57:RA:=.t 57
abbrev t58:RA:=.t 58
abbrev t59:RA:=.t 59
abbrev t60:RA:=.t 60
abbrev t61:RA:=.t 61
abbrev t62:RA:=.t 62
abbrev t63:RA:=.t 63
abbrev t64:RA:=.t 64
abbrev t65:RA:=.t 65
abbrev t66:RA:=.t 66
abbrev t67:RA:=.t 67
abbrev t68:RA:=.t 68
abbrev t69:RA:=.t 69
abbrev t70:RA:=.t 70
abbrev t71:RA:=.t 71
abbrev t72:RA:=.t 72
abbrev t73:RA:=.t 73
abbrev t74:RA:=.t 74
abbrev t75:RA:=.t 75
abbrev t76:RA:=.t 76
abbrev t77:RA:=.t 77
abbrev t78:RA:=.t 78
abbrev t79:RA:=.t 79
abbrev t80:RA:=.t 80
abbrev t81:RA:=.t 81
abbrev t82:RA:=.t 82
abbrev t83:RA:=.t 83
abbrev t84:RA:=.t 84
abbrev t85:RA:=.t 85
abbrev t86:RA:=.t 86
abbrev t87:RA:=.t 87
abbrev t88:RA:=.t 88
abbrev t89:RA:=.t 89
abbrev t90:RA:=.t 90
abbrev t91:RA:=.t 91
abbrev t92:RA:=.t 92
abbrev t93:RA:=.t 93
abbrev t94:RA:=.t 94
abbrev t95:RA:=.t 95
abbrev t96:RA:=.t 96
abbrev t97:RA:=.t 97
abbrev t98:RA:=.t 98
abbrev t99:RA:=.t 99
abbrev b8d:RA:=.t 100
abbrev b8e:RA:=.t 101
abbrev b8f:RA:=.t 102
abbrev b8g:RA:=.t 103
abbrev b9d:RA:=.t 104
abbrev b9e:RA:=.t 105
abbrev b9f:RA:=.t 106
abbrev b9g:RA:=.t 107
abbrev b9h:RA:=.t 108
abbrev b9i:RA:=.t 109
abbrev b9j:RA:=.t 110
abbrev b9k:RA:=.t 111
abbrev c1w:RA:=.t 112
abbrev c1x:RA:=.t 113
abbrev c1y:RA:=.t 114
abbrev c1z:RA:=.t 115
abbrev c1A:RA:=.t 116
abbrev c1B:RA:=.t 117
abbrev c1C:RA:=.t 118
abbrev c1D:RA:=.t 119
abbrev c1E:RA:=.t 120
abbrev b9l:RA:=.t 121
abbrev c1F:RA:=.t 122
abbrev c1G:RA:=.t 123
abbrev c1H:RA:=.t 124
abbrev c1I:RA:=.t 125
abbrev c1J:RA:=.t 126
abbrev b9m:RA:=.t 127
abbrev c1K:RA:=.t 128
abbrev c1L:RA:=.t 129
abbrev c1M:RA:=.t 130
abbrev c1N:RA:=.t 131
abbrev c1O:RA:=.t 132
abbrev c1P:RA:=.t 133
abbrev c1Q:RA:=.t 134
abbrev c1R:RA:=.t 135
abbrev c1S:RA:=.t 136
abbrev c1T:RA:=.t 137
abbrev c1U:RA:=.t 138
abbrev c3V:RA:=.t 139
abbrev c3W:RA:=.t 140
abbrev c3X:RA:=.t 141
abbrev c3Y:RA:=.t 142
abbrev c3Z:RA:=.t 143
abbrev c4a:RA:=.t 144
abbrev c4b:RA:=.t 145
abbrev c4c:RA:=.t 146
abbrev c4d:RA:=.t 147
abbrev c4e:RA:=.t 148
abbrev c5n:RA:=.t 149
abbrev c5o:RA:=.t 150
abbrev c5p:RA:=.t 151
abbrev c5q:RA:=.t 152
abbrev c5r:RA:=.t 153
abbrev c5s:RA:=.t 154
abbrev c5t:RA:=.t 155
abbrev c5u:RA:=.t 156
abbrev c7e:RA:=.t 157
abbrev c7f:RA:=.t 158
abbrev c7g:RA:=.t 159
abbrev c7h:RA:=.t 160
abbrev c7i:RA:=.t 161
abbrev c5v:RA:=.t 162
abbrev c7j:RA:=.t 163
abbrev c7k:RA:=.t 164
abbrev c7l:RA:=.t 165
abbrev c9w:RA:=.t 166
abbrev c9x:RA:=.t 167
abbrev c9y:RA:=.t 168
abbrev c9z:RA:=.t 169
abbrev c9A:RA:=.t 170
abbrev c9B:RA:=.t 171
abbrev c9C:RA:=.t 172
abbrev c9D:RA:=.t 173
abbrev c9E:RA:=.t 174
abbrev c9F:RA:=.t 175
abbrev c9G:RA:=.t 176
abbrev c9H:RA:=.t 177
abbrev c9I:RA:=.t 178
abbrev c9J:RA:=.t 179
abbrev c9K:RA:=.t 180
abbrev c9L:RA:=.t 181
abbrev c9M:RA:=.t 182
abbrev c9N:RA:=.t 183
abbrev c9O:RA:=.t 184
abbrev d0r:RA:=.t 185
abbrev d0s:RA:=.t 186
abbrev d0t:RA:=.t 187
abbrev d0u:RA:=.t 188
abbrev d0v:RA:=.t 189
abbrev d0w:RA:=.t 190
abbrev d0x:RA:=.t 191
abbrev d0y:RA:=.t 192
abbrev d0z:RA:=.t 193
abbrev d0A:RA:=.t 194
abbrev d0B:RA:=.t 195
abbrev d0C:RA:=.t 196
abbrev d0D:RA:=.t 197
abbrev d0E:RA:=.t 198
abbrev d0F:RA:=.t 199
abbrev d0G:RA:=.t 200
abbrev d0H:RA:=.t 201
abbrev d0I:RA:=.t 202
abbrev d0J:RA:=.t 203
abbrev d0K:RA:=.t 204
abbrev d0L:RA:=.t 205
abbrev d0M:RA:=.t 206
abbrev d0N:RA:=.t 207
abbrev d0O:RA:=.t 208
abbrev d0P:RA:=.t 209
abbrev d0Q:RA:=.t 210
abbrev d0R:RA:=.t 211
abbrev d0S:RA:=.t 212
abbrev d0T:RA:=.t 213
abbrev d0U:RA:=.t 214
abbrev d0V:RA:=.t 215
abbrev d0W:RA:=.t 216
abbrev d0X:RA:=.t 217
abbrev d0Y:RA:=.t 218
abbrev d0Z:RA:=.t 219
abbrev d1a:RA:=.t 220
abbrev d1b:RA:=.t 221
abbrev d1c:RA:=.t 222
abbrev d1d:RA:=.t 223
abbrev d1e:RA:=.t 224
abbrev d1f:RA:=.t 225
abbrev d1g:RA:=.t 226
abbrev d1h:RA:=.t 227
abbrev d1i:RA:=.t 228
abbrev d1j:RA:=.t 229
abbrev d1k:RA:=.t 230
abbrev d1l:RA:=.t 231
abbrev d1m:RA:=.t 232
abbrev d1n:RA:=.t 233
abbrev d1o:RA:=.t 234
abbrev d1p:RA:=.t 235
abbrev d1q:RA:=.t 236
abbrev d1r:RA:=.t 237
abbrev d1s:RA:=.t 238
abbrev d1t:RA:=.t 239
abbrev d1u:RA:=.t 240
abbrev d1v:RA:=.t 241
abbrev d1w:RA:=.t 242
abbrev d1x:RA:=.t 243
abbrev d1y:RA:=.t 246
abbrev d1z:RA:=.t 247
abbrev d1A:RA:=.t 248
abbrev d1B:RA:=.t 249
abbrev d1C:RA:=.t 251
abbrev d1D:RA:=.t 252
abbrev d1E:RA:=.t 253
end Go.Ab.Td
namespace Go.Ab.Td
open Go.Ab
def a4V:n6:=⟨3,112,[.tmp 6],
 .seq (.b6 [i 3 (.box 3 t0) 0,
 i 6 (.mv (.c (.pv (.bool false)))) 0] false)
 (.seq (.seq (.b6 [i 13 (.call (.f R4) []) 0,
 i 14 (.not B0) 1] false)
 (.cond D1
 (.seq (.b6 [i 6 (.mv (.c (.pv (.bool false)))) 0] false)
 .ret)
 .skip))
 (.seq (.b6 [i 16 (.load true 3 t3) 0,
 i 17 (.call (.f a1U) [G5]) 1,
 i 18 (mv t1) 0,
 i 19 (.call (.f Y8) [E9,I4]) 7,
 i 15 (mv M0) 15,
 i 20 (.extract G4 0) 31,
 i 21 (.extract G4 1) 31,
 i 7 (.alloc z1) 0,
 iz (.store 67 t7 O1) 191,
 i 8 (mv M6) 511] false)
 (.seq (.seq (.b6 [i 22 (mv t8) 0,
 i 23 (.not R8) 1] false)
 (.cond V1
 (.seq (.b6 [i 6 (.mv (.c (.pv (.bool false)))) 0] false)
 .ret)
 .skip))
 (.seq (.b6 [i 24 (.b0 t7 0) 0,
 i 25 (.load false 1 X8) 1,
 i 26 (.b0 t7 0) 0,
 i 27 (.load false 1 t26) 4,
 i 28 (.j1 t27) 12,
 i 29 (.mm false [t28,.c (I 99)]) 28,
 i 30 (.slice 7 X6 none (some t29) none) 63,
 i 31 (.call (.f k7) [t30]) 127,
 i 32 (mv t2) 0,
 i 33 (.bin .rem t32 (.c (.pv (.int .u8 (12))))) 256,
 i 34 (.conv .i64 t33) 768,
 i 35 (.bin .add (.c (I 1)) t34) 1792,
 i 36 (.call (.f L7) [t35]) 4095,
 i 37 (.O2 7 1 z0 [(0,t36)]) 8191,
 i 38 (.append 7 64 t31 t37) 16383,
 i 39 (.b0 t7 0) 32767,
 iz (.store 1 t39 t38) 65535] false)
 (.seq (.b6 [i 41 (.load true 67 t7) 0,
 i 42 (.call (.f C7) [t41,.c (.pv (.str [114,101,115,116,111,114,101]))]) 1,
 i 40 (mv t42) 3,
 i 43 (.extract t40 0) 7,
 i 44 (.extract t40 1) 7,
 i 9 (.alloc z1) 0,
 iz (.store 67 t9 t43) 47,
 i 10 (mv t44) 127] false)
 (.seq (.seq (.b6 [i 45 (mv u2) 0,
 i 46 (.bin .neq t45 (.c (I 0))) 1] false)
 (.cond t46
 (.seq (.b6 [i 47 (mv u2) 0,
 i 48 (.bin .eql t47 (.c (I 34))) 1,
 i 49 (mv t48) 3,
 ig 50 (.load true 67 t9) 49 true 7,
 ig 51 (.load true 67 t7) 49 true 7,
 ig 52 (.call (.f o5) [t50,t51]) 49 true 31,
 i 53 (.pick t49 t52 (.c (.pv (.bool false)))) 63,
 i 6 (mv t53) 127] false)
 .ret)
 .skip))
 (.seq (.seq (.b6 [i 54 (.b0 t9 0) 0,
 i 55 (.load false 1 t54) 1,
 i 56 (.call (.f k7) [t55]) 3,
 i 57 (.b0 t9 1) 0,
 i 58 (.load false 1 t57) 8,
 i 59 (.append 7 64 t56 t58) 31,
 i 60 (.j1 t59) 63,
 i 61 (.mv (.c (I 0))) 0] true)
 (.block 0
 (.loop [7,9,59,60,61]
 (.seq (.b6 [i 62 (.bin .lss t61 t60) 0] false)
 (.seq (.cond t62
 .skip
 (.exit 0))
 (.seq (.block 1
 (.seq (.b6 [i 63 (.j4 7 t59 t61) 0,
 i 64 (.load true 7 t63) 1,
 i 12 (.alloc z0) 0,
 iz (.store 7 z9 t64) 7] false)
 (.seq (.b6 [i 65 (.b0 t9 2) 0,
 i 66 (.load false 1 t65) 1,
 i 67 (.load true 7 z9) 0,
 i 68 (.call (.f A6) [t66,t67]) 7,
 i 69 (.not t68) 15] false)
 (.cond t69
 (.seq (.b6 [i 6 (.mv (.c (.pv (.bool false)))) 0] false)
 .ret)
 .skip))))
 (.b6 [i 70 (.bin .add t61 (.c (I 1))) 0,
 i 61 (mv t70) 1] false)))))))
 (.seq (.b6 [i 71 (.b0 t9 0) 0,
 i 72 (.load false 1 t71) 1,
 i 73 (.b0 t7 0) 0,
 i 74 (.load false 1 t73) 4,
 i 75 (.b0 t7 0) 0,
 i 76 (.load false 1 t75) 16,
 i 77 (.j1 t76) 48,
 i 78 (.bin .sub t77 (.c (I 1))) 112,
 i 79 (.slice 7 t74 none (some t78) none) 252,
 i 80 (.call (.f m7) [t72,t79]) 511,
 i 81 (mv t80) 1023,
 ig 82 (.b0 t9 1) 81 true 2047,
 ig 83 (.load false 1 t82) 81 true 4095,
 ig 84 (.b0 t7 1) 81 true 2047,
 ig 85 (.load false 1 t84) 81 true 10239,
 ig 86 (.call (.f m7) [t83,t85]) 81 true 32767,
 i 87 (.pick t81 t86 (.c (.pv (.bool false)))) 65535,
 i 88 (mv t87) 131071,
 ig 89 (.b0 t9 2) 88 true 262143,
 ig 90 (.load false 1 t89) 88 true 524287,
 ig 91 (.call (.f K3) [t90]) 88 true 1048575,
 ig 92 (.bin .eql t91 (.c (I 0))) 88 true 2097151,
 i 93 (.pick t88 t92 (.c (.pv (.bool false)))) 4194303,
 i 94 (mv t93) 8388607,
 ig 95 (.b0 t9 62) 94 true 16777215,
 ig 96 (.load false 1 t95) 94 true 33554431,
 ig 97 (.j1 t96) 94 true 67108863,
 ig 98 (.b0 t7 62) 94 true 16777215,
 ig 99 (.load false 1 t98) 94 true 150994943,
 ig 100 (.j1 t99) 94 true 419430399,
 ig 101 (.bin .leq t97 b8d) 94 true 1073741823,
 i 102 (.pick t94 b8e (.c (.pv (.bool false)))) 2147483647,
 i 103 (mv b8f) 4294967295,
 ig 104 (.b0 t9 3) 103 true 8589934591,
 ig 105 (.load false 1 b9d) 103 true 17179869183,
 ig 106 (.j1 b9e) 103 true 34359738367,
 ig 107 (.b0 t7 3) 103 true 8589934591,
 ig 108 (.load false 1 b9g) 103 true 77309411327,
 ig 109 (.j1 b9h) 103 true 214748364799,
 ig 110 (.bin .lss b9f b9i) 103 true 549755813887,
 i 111 (.pick b8g b9j (.c (.pv (.bool false)))) 1099511627775,
 i 6 (mv b9k) 2199023255551] true)
 .ret))))))))⟩
def a4C:n6:=⟨0,157,[.tmp 0],
 .seq (.b6 [i 0 (.mv (.c (.pv (.bool false)))) 0] false)
 (.seq (.b6 [i 19 (.call (.f R3) []) 0,
 i 20 (.call (.f C7) [M0,.c (.pv (.str [115,97,118,101]))]) 1,
 i 18 (mv O1) 3,
 i 21 (.extract I4 0) 7,
 i 22 (.extract I4 1) 7,
 i 1 (.alloc z1) 0,
 iz (.store 67 t1 M6) 47,
 i 2 (mv R8) 127] false)
 (.seq (.seq (.b6 [i 23 (mv t2) 0,
 i 24 (.bin .neq V1 (.c (I 0))) 1,
 i 25 (mv X8) 3,
 ig 26 (.b0 t1 0) 25 false 7,
 ig 27 (.load false 1 t26) 25 false 15,
 ig 28 (.call (.f L7) [.c (I 1)]) 25 false 7,
 ig 29 (.O2 7 1 z0 [(0,t28)]) 25 false 39,
 ig 30 (.call (.f m7) [t27,t29]) 25 false 127,
 ig 31 (.not t30) 25 false 255,
 i 32 (.pick X6 (.c (.pv (.bool true))) t31) 511,
 i 33 (mv t32) 1023,
 ig 34 (.b0 t1 3) 33 false 2047,
 ig 35 (.load false 1 t34) 33 false 4095,
 ig 36 (.j1 t35) 33 false 8191,
 ig 37 (.bin .neq t36 (.c (I 1))) 33 false 16383,
 i 38 (.pick t33 (.c (.pv (.bool true))) t37) 32767,
 i 39 (mv t38) 65535,
 ig 40 (.b0 t1 62) 39 false 131071,
 ig 41 (.load false 1 t40) 39 false 262143,
 ig 42 (.j1 t41) 39 false 524287,
 ig 43 (.bin .neq t42 (.c (I 1))) 39 false 1048575,
 i 44 (.pick t39 (.c (.pv (.bool true))) t43) 2097151,
 i 45 (mv t44) 4194303,
 ig 46 (.b0 t1 4) 45 false 8388607,
 ig 47 (.load false 1 t46) 45 false 16777215,
 ig 48 (.bin .neq t47 (.c (I 1))) 45 false 33554431,
 i 49 (.pick t45 (.c (.pv (.bool true))) t48) 67108863] true)
 (.cond t49
 (.seq (.b6 [i 0 (.mv (.c (.pv (.bool false)))) 0] false)
 .ret)
 .skip))
 (.seq (.b6 [i 50 (.build z0 [(0,1,.c (I 6)),(4,1,.c (I 10)),(6,1,.c (I 3))]) 0,
 i 3 (.alloc z0) 0,
 iz (.store 7 t3 t50) 3] false)
 (.seq (.b6 [i 52 (.b0 t1 2) 0,
 i 53 (.load false 1 t52) 1,
 i 54 (.load true 7 t3) 0,
 i 55 (.call (.f J2) [t53,t54,.c (I 0),.c (.pv (.str [65]))]) 7,
 i 51 (mv t55) 15,
 i 56 (.extract t51 0) 31,
 i 57 (.extract t51 1) 31,
 i 4 (mv t56) 63,
 i 5 (mv t57) 255] false)
 (.seq (.b6 [i 58 (.load true 67 t1) 0,
 i 6 (.alloc z1) 0,
 iz (.store 67 t6 t58) 3] false)
 (.seq (.b6 [i 59 (mv t4) 0,
 i 60 (.b0 t6 2) 1,
 iz (.store 1 t60 t59) 3,
 i 61 (.b0 t6 5) 7,
 i 62 (.b0 t61 40) 15,
 iz (.store 1 t62 (.c (I 9))) 31] false)
 (.seq (.b6 [i 64 (.load true 67 t6) 0,
 i 65 (.call (.f C7) [t64,.c (.pv (.str [114,101,115,116,111,114,101]))]) 1,
 i 63 (mv t65) 3,
 i 66 (.extract t63 0) 7,
 i 67 (.extract t63 1) 7,
 i 7 (.alloc z1) 0,
 iz (.store 67 t7 t66) 47,
 i 8 (mv t67) 127] false)
 (.seq (.b6 [i 69 (.load true 67 t7) 0,
 i 70 (.call (.f L7) [.c (I 1)]) 0,
 i 71 (.O2 7 1 z0 [(0,t70)]) 2,
 i 72 (.call (.f V9) [t69,t71]) 7,
 i 73 (.call (.f C7) [t72,.c (.pv (.str [114,101,115,116,111,114,101]))]) 15,
 i 68 (mv t73) 31,
 i 74 (.extract t68 0) 63,
 i 75 (.extract t68 1) 63,
 i 9 (.alloc z1) 0,
 iz (.store 67 t9 t74) 383,
 i 10 (mv t75) 1023] true)
 (.seq (.b6 [i 77 (.load true 67 t1) 0,
 i 78 (.call (.f a3g) [t77,.c (I 1)]) 1,
 i 76 (mv t78) 3,
 i 79 (.extract t76 0) 7,
 i 80 (.extract t76 1) 7,
 i 11 (mv t79) 15,
 i 12 (mv t80) 63] false)
 (.seq (.b6 [i 82 (.load true 67 t1) 0,
 i 83 (.call (.f C7) [t82,.c (.pv (.str [118,109,115,116,97,116,117,115]))]) 1,
 i 81 (mv t83) 3,
 i 84 (.extract t81 0) 7,
 i 85 (.extract t81 1) 7,
 i 13 (.alloc z1) 0,
 iz (.store 67 B0 t84) 47,
 i 14 (mv t85) 127] false)
 (.seq (.b6 [i 87 (.load true 67 t1) 0,
 i 88 (.load true 7 t3) 0,
 i 89 (.O2 7 1 z0 [(0,t88)]) 2,
 i 90 (.call (.f V9) [t87,t89]) 7,
 i 91 (.call (.f C7) [t90,.c (.pv (.str [114,101,115,116,111,114,101]))]) 15,
 i 86 (mv t91) 31,
 i 92 (.extract t86 0) 63,
 i 93 (.extract t86 1) 63,
 i 15 (.alloc z1) 0,
 iz (.store 67 G4 t92) 383,
 i 16 (mv t93) 1023] false)
 (.seq (.b6 [i 94 (.call (.f R3) []) 0,
 i 17 (.alloc z1) 0,
 iz (.store 67 E9 t94) 3] false)
 (.seq (.b6 [i 95 (.b0 E9 4) 0,
 iz (.store 1 t95 (.c (I 1))) 1] false)
 (.seq (.b6 [i 96 (mv t5) 0,
 i 97 (.bin .eql t96 (.c (I 0))) 1,
 i 98 (mv t97) 3,
 ig 99 (mv t8) 98 true 7,
 ig 100 (.bin .eql t99 (.c (I 0))) 98 true 15,
 i 101 (.pick t98 b8d (.c (.pv (.bool false)))) 31,
 i 102 (mv b8e) 63,
 ig 103 (.load true 67 t7) 102 true 127,
 ig 104 (.load true 67 E9) 102 true 127,
 ig 105 (.call (.f o5) [b8g,b9d]) 102 true 511,
 i 106 (.pick b8f b9e (.c (.pv (.bool false)))) 1023,
 i 107 (mv b9f) 2047,
 ig 108 (mv u2) 107 true 4095,
 ig 109 (.bin .eql b9h (.c (I 34))) 107 true 8191,
 i 110 (.pick b9g b9i (.c (.pv (.bool false)))) 16383,
 i 111 (mv b9j) 32767,
 ig 112 (mv w8) 111 true 65535,
 ig 113 (.bin .eql c1w (.c (I 11))) 111 true 131071,
 i 114 (.pick b9k c1x (.c (.pv (.bool false)))) 262143,
 i 115 (mv c1y) 524287,
 ig 116 (mv z9) 115 true 1048575,
 i 117 (.pick c1z c1A (.c (.pv (.bool false)))) 2097151,
 i 118 (mv c1B) 4194303,
 ig 119 (mv D1) 118 true 8388607,
 ig 120 (.bin .eql c1D (.c (I 0))) 118 true 16777215,
 i 121 (.pick c1C c1E (.c (.pv (.bool false)))) 33554431,
 i 122 (mv b9l) 67108863,
 ig 123 (.b0 B0 0) 122 true 134217727,
 ig 124 (.load false 1 c1G) 122 true 268435455,
 ig 125 (.j1 c1H) 122 true 536870911,
 ig 126 (.bin .eql c1I (.c (I 4))) 122 true 1073741823,
 i 127 (.pick c1F c1J (.c (.pv (.bool false)))) 2147483647,
 i 128 (mv b9m) 4294967295,
 ig 129 (.b0 B0 0) 128 true 8589934591,
 ig 130 (.load false 1 c1L) 128 true 17179869183,
 ig 131 (.j4 7 c1M (.c (I 1))) 128 true 34359738367,
 ig 132 (.b0 c1N 2) 128 true 68719476735,
 ig 133 (.load false 1 c1O) 128 true 137438953471,
 ig 134 (.bin .eql c1P (.c (I 1))) 128 true 274877906943,
 i 135 (.pick c1K c1Q (.c (.pv (.bool false)))) 549755813887,
 i 136 (mv c1R) 1099511627775,
 ig 137 (.b0 B0 0) 136 true 2199023255551,
 ig 138 (.load false 1 c1T) 136 true 4398046511103,
 ig 139 (.j4 7 c1U (.c (I 3))) 136 true 8796093022207,
 ig 140 (.b0 c3V 2) 136 true 17592186044415,
 ig 141 (.load false 1 c3W) 136 true 35184372088831,
 ig 142 (.bin .eql c3X (.c (I 20000))) 136 true 70368744177663,
 i 143 (.pick c1S c3Y (.c (.pv (.bool false)))) 140737488355327,
 i 144 (mv c3Z) 281474976710655,
 ig 145 (mv G5) 144 true 562949953421311,
 ig 146 (.bin .eql c4b (.c (I 22))) 144 true 1125899906842623,
 i 147 (.pick c4a c4c (.c (.pv (.bool false)))) 2251799813685247,
 i 148 (mv c4d) 4503599627370495,
 ig 149 (.load true 7 t3) 148 true 9007199254740991,
 ig 150 (.call (.f L0) [c5n,.c (I 10)]) 148 true 18014398509481983,
 i 151 (.pick c4e c5o (.c (.pv (.bool false)))) 36028797018963967,
 i 152 (mv c5p) 72057594037927935,
 ig 153 (.load true 7 t3) 152 true 144115188075855871,
 ig 154 (.call (.f L0) [c5r,.c (I 11)]) 152 true 288230376151711743,
 ig 155 (.not c5s) 152 true 576460752303423487,
 i 156 (.pick c5q c5t (.c (.pv (.bool false)))) 1152921504606846975,
 i 0 (mv c5u) 2305843009213693951] false)
 .ret))))))))))))))⟩
def a7Z:n6:=⟨1,9,[.cell 2 true 67],
 .seq (.b6 [i 1 (.box 3 t0) 0,
 i 2 (.alloc z1) 0] false)
 (.seq (.b6 [i 4 (.load true 3 t1) 0,
 i 5 (.call (.f F2) [t4]) 1,
 i 3 (.alloc z1) 0,
 iz (.store 67 t3 t5) 7] false)
 (.seq (.b6 [i 6 (.b0 t3 5) 0,
 i 7 (.b0 t6 40) 1,
 iz (.store 1 t7 (.c (I 1))) 3] false)
 (.seq (.b6 [i 8 (.load true 67 t3) 0,
 iz (.store 67 t2 t8) 1] false)
 .ret)))⟩
def b1k:n6:=⟨1,8,[.tmp 2],
 .seq (.b6 [i 2 (.mv (.c (.emp 6))) 0] false)
 (.seq (.b6 [i 3 (mv t0) 0,
 i 4 (mv t0) 0,
 i 5 (.j1 t4) 2,
 i 6 (.mm false [t5,.c (I 60)]) 6,
 i 7 (.slice 6 t3 none (some t6) none) 15,
 i 2 (mv t7) 31] false)
 .ret)⟩
def a4b:n6:=⟨1,13,[.tmp 2],
 .seq (.b6 [i 1 (.box 6 t0) 0,
 i 2 (.mv (.c (.pv (.str [])))) 0] false)
 (.seq (.seq (.b6 [i 3 (.b0 t1 0) 0,
 i 4 (.load false 1 t3) 1,
 i 5 (.bin .rem t4 (.c (.pv (.int .u8 (8))))) 3,
 i 6 (.bin .lss t5 (.c (.pv (.int .u8 (3))))) 7] false)
 (.cond t6
 (.seq (.b6 [i 7 (.call (.f a1X) []) 0,
 i 8 (.b0 t1 0) 0,
 i 9 (.load false 1 t8) 2,
 i 10 (.bin .rem t9 (.c (.pv (.int .u8 (8))))) 6,
 i 11 (.j4 1 t7 u2) 15,
 i 12 (.load false 1 w8) 31,
 i 2 (mv z9) 63] true)
 .ret)
 .skip))
 (.seq (.b6 [i 2 (.mv (.c (.pv (.str [])))) 0] false)
 .ret))⟩
def b2H:n6:=⟨2,166,[.cell 4 true 67,.tmp 5],
 .seq (.b6 [i 2 (.box 67 t0) 0,
 i 4 (.alloc z1) 0,
 i 5 (.mv (.c (I 0))) 0] false)
 (.seq (.b6 [i 16 (.b0 t2 0) 0,
 i 17 (.load false 1 G5) 1,
 i 18 (.j1 E9) 3,
 i 6 (mv I4) 7] false)
 (.seq (.seq (.b6 [i 19 (mv t1) 0] false)
 (.block 0
 (.seq (.b6 [i 21 (.bin .eql M0 (.c (.pv (.str [115,97,118,101])))) 0,
 i 20 (mv M6) 1] false)
 (.cond O1
 (.seq (.seq (.b6 [i 22 (.b0 t2 3) 0,
 i 23 (.load false 1 R8) 1,
 i 24 (.j1 V1) 3,
 i 25 (.bin .geq X8 (.c (I 10))) 7,
 i 26 (mv X6) 15,
 ig 27 (.b0 t2 62) 26 false 31,
 ig 28 (.load false 1 t27) 26 false 63,
 ig 29 (.j1 t28) 26 false 127,
 ig 30 (.bin .geq t29 (.c (I 20))) 26 false 255,
 i 31 (.pick t26 (.c (.pv (.bool true))) t30) 511] false)
 (.cond t31
 (.seq (.b6 [i 32 (.load true 67 t2) 0,
 iz (.store 67 t4 t32) 1,
 i 5 (.mv (.c (I 26))) 3] false)
 .ret)
 .skip))
 (.seq (.b6 [i 34 (.load true 67 t2) 0,
 i 35 (.b0 t2 4) 0,
 i 36 (.load false 1 t35) 2,
 i 37 (.bin .add t36 (.c (I 1))) 6,
 i 38 (.build z0 [(0,1,.c (I 12)),(2,1,t37)]) 14,
 i 39 (.O2 7 1 z0 [(0,t38)]) 30,
 i 40 (.call (.f u4) [t34,.c (I 0),t39]) 63,
 i 33 (mv t40) 127,
 i 41 (.extract t33 0) 255,
 i 42 (.extract t33 1) 255,
 i 7 (.alloc z1) 0,
 iz (.store 67 t7 t41) 1535,
 i 8 (mv t42) 4095] false)
 (.seq (.seq (.b6 [i 43 (mv t8) 0,
 i 44 (.bin .neq t43 (.c (I 0))) 1] false)
 (.cond t44
 (.seq (.b6 [i 45 (.load true 67 t2) 0,
 i 46 (mv t8) 0,
 iz (.store 67 t4 t45) 1,
 i 5 (mv t46) 7] false)
 .ret)
 .skip))
 (.seq (.b6 [i 47 (.b0 t2 4) 0,
 i 48 (.load false 1 t47) 1,
 i 49 (.bin .add t48 (.c (I 1))) 3,
 i 50 (.b0 t7 4) 7,
 iz (.store 1 t50 t49) 15] false)
 (.seq (.b6 [i 9 (.mv (.c (.emp 3))) 0] false)
 (.seq (.b6 [i 51 (mv t9) 0,
 i 52 (.b0 t2 3) 0,
 i 53 (.load false 1 t52) 2,
 i 54 (.append 3 40 t51 t53) 7,
 i 55 (.b0 t7 4) 0,
 i 56 (.load false 1 t55) 16,
 i 57 (.b0 t2 2) 0,
 i 58 (.load false 1 t57) 64,
 i 59 (.b0 t2 62) 0,
 i 60 (.load false 1 t59) 256,
 i 61 (.j1 t60) 768,
 i 62 (.build [I 0,.emp 7,I 0] [(0,1,t56),(1,1,t58),(2,1,t61)]) 2032,
 i 63 (.O2 3 1 [I 0,.emp 7,I 0] [(0,t62)]) 4080,
 i 64 (.append 3 40 t54 t63) 8191,
 i 65 (.b0 t7 3) 16383,
 iz (.store 1 t65 t64) 32767] true)
 (.seq (.b6 [i 10 (.mv (.c (.emp 57))) 0] false)
 (.seq (.b6 [i 66 (mv u2) 0,
 i 67 (.b0 t2 62) 0,
 i 68 (.load false 1 t67) 2,
 i 69 (.append 57 520 t66 t68) 7,
 i 70 (.b0 t2 5) 0,
 i 71 (.load true 57 t70) 16,
 i 72 (.O2 57 1 z4 [(0,t71)]) 48,
 i 73 (.append 57 520 t69 t72) 127,
 i 74 (.b0 t7 62) 255,
 iz (.store 1 t74 t73) 511] true)
 (.seq (.b6 [i 75 (.load true 67 t7) 0,
 iz (.store 67 t4 t75) 1,
 i 5 (.mv (.c (I 0))) 3] false)
 .ret)))))))))
 (.seq (.b6 [i 77 (.bin .eql M0 (.c (.pv (.str [114,101,115,116,111,114,101])))) 0,
 i 76 (mv t77) 1] false)
 (.cond t76
 (.seq (.seq (.b6 [i 78 (mv t6) 0,
 i 79 (.bin .lss t78 (.c (I 1))) 1] false)
 (.cond t79
 (.seq (.b6 [i 80 (.load true 67 t2) 0,
 iz (.store 67 t4 t80) 1,
 i 5 (.mv (.c (I 20))) 3] false)
 .ret)
 .skip))
 (.seq (.b6 [i 81 (.b0 t2 0) 0,
 i 82 (.load false 1 t81) 1,
 i 83 (mv t6) 0,
 i 84 (.bin .sub t83 (.c (I 1))) 4,
 i 85 (.j4 7 t82 t84) 15,
 i 86 (.load true 7 t85) 31,
 i 11 (.alloc z0) 0,
 iz (.store 7 w8 t86) 127] false)
 (.seq (.seq (.b6 [i 87 (.b0 w8 0) 0,
 i 88 (.load false 1 t87) 1,
 i 89 (.bin .neq t88 (.c (I 12))) 3] false)
 (.cond t89
 (.seq (.b6 [i 90 (.load true 67 t2) 0,
 iz (.store 67 t4 t90) 1,
 i 5 (.mv (.c (I 22))) 3] false)
 .ret)
 .skip))
 (.seq (.b6 [i 91 (.load true 67 t2) 0,
 i 92 (.b0 w8 2) 0,
 i 93 (.load false 1 t92) 2,
 i 94 (.call (.f a1Z) [t91,t93]) 7,
 i 12 (mv t94) 15] false)
 (.seq (.seq (.b6 [i 95 (mv z9) 0,
 i 96 (.bin .lss t95 (.c (I 0))) 1] false)
 (.cond t96
 (.seq (.b6 [i 97 (.load true 67 t2) 0,
 iz (.store 67 t4 t97) 1,
 i 5 (.mv (.c (I 34))) 3] false)
 .ret)
 .skip))
 (.seq (.b6 [i 98 (.b0 t2 3) 0,
 i 99 (.load false 1 t98) 1,
 i 100 (mv z9) 0,
 i 101 (.j4 3 t99 b8d) 7,
 i 102 (.load true 3 b8e) 15,
 i 13 (.alloc [I 0,.emp 7,I 0]) 0,
 iz (.store 3 B0 b8f) 63] false)
 (.seq (.seq (.b6 [i 103 (.b0 t2 0) 0,
 i 104 (.load false 1 b8g) 1,
 i 105 (mv t6) 0,
 i 106 (.bin .sub b9e (.c (I 1))) 4,
 i 107 (.slice 7 b9d none (some b9f) none) 15,
 i 108 (.b0 B0 1) 0,
 i 109 (.load false 1 b9h) 32,
 i 110 (.j1 b9i) 96,
 i 111 (.call (.f Z1) [b9g,b9j]) 255,
 i 112 (mv b9k) 511,
 ig 113 (.b0 t2 1) 112 false 1023,
 ig 114 (.load false 1 c1x) 112 false 2047,
 ig 115 (.b0 B0 1) 112 false 1023,
 ig 116 (.load false 1 c1z) 112 false 5119,
 ig 117 (.j1 c1A) 112 false 13311,
 ig 118 (.call (.f Z1) [c1y,c1B]) 112 false 32767,
 i 119 (.pick c1w (.c (.pv (.bool true))) c1C) 65535] true)
 (.cond c1D
 (.seq (.b6 [i 120 (.load true 67 t2) 0,
 iz (.store 67 t4 c1E) 1,
 i 5 (.mv (.c (I 34))) 3] false)
 .ret)
 .skip))
 (.seq (.b6 [i 122 (.load true 67 t2) 0,
 i 123 (.call (.f u4) [c1F,.c (I 1),.c (.emp 7)]) 1,
 i 121 (mv c1G) 3,
 i 124 (.extract b9l 0) 7,
 i 125 (.extract b9l 1) 7,
 i 14 (.alloc z1) 0,
 iz (.store 67 D1 c1H) 47,
 i 15 (mv c1I) 127] false)
 (.seq (.b6 [i 126 (.b0 B0 1) 0,
 i 127 (.load false 1 c1J) 1,
 i 128 (.b0 D1 2) 3,
 iz (.store 1 c1K b9m) 7] false)
 (.seq (.b6 [i 129 (.b0 t2 62) 0,
 i 130 (.load false 1 c1L) 1,
 i 131 (.b0 B0 2) 0,
 i 132 (.load false 1 c1N) 4,
 i 133 (.j4 57 c1M c1O) 15,
 i 134 (.load true 57 c1P) 31,
 i 135 (.b0 D1 5) 63,
 iz (.store 57 c1R c1Q) 127] false)
 (.seq (.b6 [i 136 (.b0 t2 62) 0,
 i 137 (.load false 1 c1S) 1,
 i 138 (.b0 B0 2) 0,
 i 139 (.load false 1 c1U) 4,
 i 140 (.slice 57 c1T none (some c3V) none) 15,
 i 141 (.b0 D1 62) 31,
 iz (.store 1 c3X c3W) 63] false)
 (.seq (.b6 [i 142 (.b0 t2 3) 0,
 i 143 (.load false 1 c3Y) 1,
 i 144 (mv z9) 0,
 i 145 (.slice 3 c3Z none (some c4a) none) 7,
 i 146 (.b0 D1 3) 15,
 iz (.store 1 c4c c4b) 31] false)
 (.seq (.b6 [i 147 (.load true 67 D1) 0,
 i 148 (mv G4) 0,
 iz (.store 67 t4 c4d) 1,
 i 5 (mv c4e) 7] false)
 .ret)))))))))))))
 (.seq (.b6 [i 150 (.bin .eql M0 (.c (.pv (.str [118,109,115,116,97,116,117,115])))) 0,
 i 149 (mv c5o) 1] false)
 (.cond c5n
 (.seq (.b6 [i 151 (.load true 67 t2) 0,
 i 152 (.b0 t2 3) 0,
 i 153 (.load false 1 c5q) 2,
 i 154 (.j1 c5r) 6,
 i 155 (.call (.f a0y) [c5s]) 14,
 i 156 (.b0 t2 2) 0,
 i 157 (.load false 1 c5u) 32,
 i 158 (.call (.f a1V) [c7e]) 126,
 i 159 (.call (.f a0y) [c7f]) 254,
 i 160 (.call (.f a0y) [.c (I 20000)]) 510,
 i 161 (.O2 7 3 z0 [(0,c5t),(1,c7g),(2,c7h)]) 1022,
 i 162 (.call (.f u4) [c5p,.c (I 0),c7i]) 2047,
 i 163 (.extract c5v 0) 4095,
 i 164 (.extract c5v 1) 4095,
 iz (.store 67 t4 c7j) 16383,
 i 5 (mv c7k) 32767] true)
 .ret)
 .skip))))))))
 (.seq (.b6 [i 165 (.load true 67 t2) 0,
 iz (.store 67 t4 c7l) 1,
 i 5 (.mv (.c (I 24))) 3] false)
 .ret)))⟩
def a3y:n6:=⟨2,166,[.cell 4 true 67],
 .seq (.b6 [i 2 (.box 6 t0) 0,
 i 3 (.box 67 t1) 0,
 i 4 (.alloc z1) 0] false)
 (.seq (.b6 [i 11 (.b0 t2 1) 0,
 i 12 (.load true 5 w8) 1,
 i 13 (.b0 t3 2) 0,
 i 14 (.load false 1 B0) 4,
 i 15 (.call (.f e9) [z9,D1]) 15,
 i 5 (.alloc z0) 0,
 iz (.store 7 t5 G4) 63] false)
 (.seq (.seq (.b6 [i 16 (.b0 t2 0) 0,
 i 17 (.load false 1 G5) 1,
 i 18 (.bin .rem E9 (.c (.pv (.int .u8 (8))))) 3] false)
 (.block 0
 (.seq (.b6 [i 20 (.bin .eql I4 (.c (.pv (.int .u8 (3))))) 0,
 i 19 (mv O1) 1] false)
 (.cond M0
 (.seq (.b6 [i 21 (.b0 t3 0) 0,
 i 22 (.load false 1 M6) 1,
 i 23 (.j1 R8) 3,
 i 24 (.bin .lss V1 (.c (I 100))) 7] false)
 (.cond X8
 (.b6 [i 26 (.load true 67 t3) 0,
 i 27 (.load true 7 t5) 0,
 i 28 (.O2 7 1 z0 [(0,t27)]) 2,
 i 29 (.call (.f u4) [t26,.c (I 0),t28]) 7,
 i 25 (mv t29) 15,
 i 30 (.extract X6 0) 31,
 i 31 (.extract X6 1) 31,
 iz (.store 67 t3 t30) 63] false)
 .skip))
 (.seq (.b6 [i 33 (.bin .eql I4 (.c (.pv (.int .u8 (4))))) 0,
 i 32 (mv t33) 1] false)
 (.cond t32
 (.b6 [i 35 (.load true 67 t3) 0,
 i 36 (.b0 t3 0) 0,
 i 37 (.load false 1 t36) 2,
 i 38 (.j1 t37) 6,
 i 39 (.b0 t2 1) 0,
 i 40 (.b0 t39 1) 16,
 i 41 (.load false 1 t40) 48,
 i 42 (.bin .rem t41 (.c (.pv (.int .u8 (2))))) 112,
 i 43 (.conv .i64 t42) 240,
 i 44 (.bin .add (.c (I 1)) t43) 496,
 i 45 (.mm false [t38,t44]) 1022,
 i 46 (.call (.f u4) [t35,t45,.c (.emp 7)]) 2047,
 i 34 (mv t46) 4095,
 i 47 (.extract t34 0) 8191,
 i 48 (.extract t34 1) 8191,
 iz (.store 67 t3 t47) 16383] false)
 (.seq (.b6 [i 50 (.bin .eql I4 (.c (.pv (.int .u8 (5))))) 0,
 i 49 (mv t50) 1] false)
 (.cond t49
 (.seq (.b6 [i 51 (.b0 t2 1) 0,
 i 52 (.load true 5 t51) 1,
 i 53 (.b0 t3 2) 0,
 i 54 (.load false 1 t53) 4,
 i 55 (.call (.f o6) [t52,t54]) 15,
 i 6 (.alloc z2) 0,
 iz (.store 7 t6 t55) 63] false)
 (.seq (.b6 [i 56 (.b0 t3 2) 0,
 i 57 (.load false 1 t56) 1,
 i 58 (.j1 t57) 3,
 i 59 (.bin .lss t58 (.c (I 60))) 7,
 i 60 (mv t59) 15,
 ig 61 (.b0 t3 0) 60 true 31,
 ig 62 (.load false 1 t61) 60 true 63,
 ig 63 (.j1 t62) 60 true 127,
 ig 64 (.bin .lss t63 (.c (I 100))) 60 true 255,
 i 65 (.pick t60 t64 (.c (.pv (.bool false)))) 511] false)
 (.cond t65
 (.seq (.b6 [i 7 (.mv (.c (.emp 7))) 0] false)
 (.seq (.b6 [i 66 (mv t7) 0,
 i 67 (.b0 t3 2) 0,
 i 68 (.load false 1 t67) 2,
 i 69 (.append 7 112 t66 t68) 7,
 i 70 (.load true 7 t6) 0,
 i 71 (.O2 7 1 z2 [(0,t70)]) 16,
 i 72 (.append 7 112 t69 t71) 63,
 i 73 (.b0 t3 2) 127,
 iz (.store 1 t73 t72) 255] true)
 (.seq (.b6 [i 74 (.b0 t6 0) 0,
 i 75 (.load false 1 t74) 1,
 i 76 (.bin .eql t75 (.c (I 1))) 3] false)
 (.cond t76
 (.b6 [i 78 (.load true 67 t3) 0,
 i 79 (mv t7) 0,
 i 80 (.j1 t79) 2,
 i 81 (.b0 t3 2) 0,
 i 82 (.load false 1 t81) 8,
 i 83 (.j1 t82) 24,
 i 84 (.bin .add t80 t83) 62,
 i 85 (.bin .sub t84 (.c (I 1))) 126,
 i 86 (.b0 t6 1) 0,
 i 87 (.load false 1 t86) 256,
 i 88 (.J0 t87) 768,
 i 89 (.build z0 [(0,1,.c (I 6)),(4,1,t85),(6,1,t88)]) 2046,
 i 90 (.O2 7 1 z0 [(0,t89)]) 4094,
 i 91 (.call (.f u4) [t78,.c (I 0),t90]) 8191,
 i 77 (mv t91) 16383,
 i 92 (.extract t77 0) 32767,
 i 93 (.extract t77 1) 32767,
 iz (.store 67 t3 t92) 65535] false)
 .skip))))
 .skip)))
 (.seq (.b6 [i 95 (.bin .eql I4 (.c (.pv (.int .u8 (6))))) 0,
 i 94 (mv t95) 1] false)
 (.cond t94
 (.seq (.seq (.b6 [i 96 (.b0 t5 0) 0,
 i 97 (.load false 1 t96) 1,
 i 98 (.bin .eql t97 (.c (I 6))) 3,
 i 99 (mv t98) 7,
 ig 100 (.b0 t5 6) 99 true 15,
 ig 101 (.load false 1 b8d) 99 true 31,
 ig 102 (.bin .gtr b8e (.c (I 0))) 99 true 63,
 i 103 (.pick t99 b8f (.c (.pv (.bool false)))) 127] false)
 (.cond b8g
 (.b6 [i 104 (.b0 t3 2) 0,
 i 105 (.load false 1 b9d) 1,
 i 106 (.load true 7 t5) 0,
 i 107 (.call (.f W2) [b9e,b9f,.c (I 0),.c (.pv (.str [122]))]) 7,
 i 108 (.b0 t3 2) 15,
 iz (.store 1 b9h b9g) 31] false)
 .skip))
 (.seq (.seq (.b6 [i 109 (.b0 t5 0) 0,
 i 110 (.load false 1 b9i) 1,
 i 111 (.bin .eql b9j (.c (I 7))) 3,
 i 112 (mv b9k) 7,
 ig 113 (.b0 t5 6) 112 true 15,
 ig 114 (.load false 1 c1x) 112 true 31,
 ig 115 (.bin .gtr c1y (.c (I 0))) 112 true 63,
 i 116 (.pick c1w c1z (.c (.pv (.bool false)))) 127] false)
 (.cond c1A
 (.b6 [i 117 (.b0 t3 2) 0,
 i 118 (.load false 1 c1B) 1,
 i 119 (.load true 7 t5) 0,
 i 120 (.load true 7 t5) 0,
 i 121 (.O2 7 1 z0 [(0,c1E)]) 8,
 i 122 (.call (.f W3) [c1C,c1D,.c (I 0),b9l]) 31,
 i 123 (.b0 t3 2) 63,
 iz (.store 1 c1G c1F) 127] false)
 .skip))
 (.seq (.b6 [i 124 (.b0 t5 0) 0,
 i 125 (.load false 1 c1H) 1,
 i 126 (.bin .eql c1I (.c (I 9))) 3] false)
 (.cond c1J
 (.seq (.b6 [i 128 (.b0 t3 2) 0,
 i 129 (.load false 1 c1K) 1,
 i 130 (.load true 7 t5) 0,
 i 131 (.build z0 [(0,1,.c (I 5)),(3,1,.c (.pv (.str [110,101,119])))]) 0,
 i 132 (.load true 7 t5) 0,
 i 133 (.call (.f Z0) [c1L,c1M,c1N,c1O]) 31,
 i 127 (mv c1P) 63,
 i 134 (.extract b9m 0) 127,
 i 135 (.extract b9m 1) 127,
 i 8 (mv c1Q) 255,
 i 9 (mv c1R) 1023] false)
 (.seq (.b6 [i 136 (mv t9) 0] false)
 (.cond c1S
 (.b6 [i 137 (mv t8) 0,
 i 138 (.b0 t3 2) 1,
 iz (.store 1 c1U c1T) 3] false)
 .skip)))
 .skip))))
 (.seq (.b6 [i 140 (.bin .eql I4 (.c (.pv (.int .u8 (7))))) 0,
 i 139 (mv c3W) 1] false)
 (.cond c3V
 (.seq (.b6 [i 141 (.b0 t2 1) 0,
 i 142 (.b0 c3X 1) 1,
 i 143 (.load false 1 c3Y) 3,
 i 144 (.conv .i64 c3Z) 7,
 i 145 (.bin .add (.c (I 1)) c4a) 15,
 i 146 (.b0 t3 5) 31,
 i 147 (.b0 c4c 40) 63,
 iz (.store 1 c4d c4b) 127] false)
 (.seq (.b6 [i 148 (.b0 t5 0) 0,
 i 149 (.load false 1 c4e) 1,
 i 150 (.bin .eql c5n (.c (I 9))) 3,
 i 151 (mv c5o) 7,
 ig 152 (.b0 t3 1) 151 true 15,
 ig 153 (.load false 1 c5q) 151 true 31,
 ig 154 (.j1 c5r) 151 true 63,
 ig 155 (.bin .lss c5s (.c (I 20))) 151 true 127,
 i 156 (.pick c5p c5t (.c (.pv (.bool false)))) 255] false)
 (.cond c5u
 (.seq (.b6 [i 10 (.mv (.c (.emp 7))) 0] false)
 (.b6 [i 157 (mv u2) 0,
 i 158 (.b0 t3 1) 0,
 i 159 (.load false 1 c7f) 2,
 i 160 (.append 7 64 c7e c7g) 7,
 i 161 (.load true 7 t5) 0,
 i 162 (.O2 7 1 z0 [(0,c7i)]) 16,
 i 163 (.append 7 64 c7h c5v) 63,
 i 164 (.b0 t3 1) 127,
 iz (.store 1 c7k c7j) 255] true))
 .skip)))
 .skip))))))))))))
 (.seq (.b6 [i 165 (.load true 67 t3) 0,
 iz (.store 67 t4 c7l) 1] false)
 .ret)))⟩
def a4B:n6:=⟨1,5,[.cell 2 true 7],
 .seq (.b6 [i 2 (.alloc z0) 0] false)
 (.seq (.b6 [i 3 (mv t0) 0,
 i 4 (.build z0 [(0,1,.c (I 12)),(2,1,t3)]) 1,
 iz (.store 7 t2 t4) 3] false)
 .ret)⟩
def a4Y:n6:=⟨2,84,[.cell 4 true 7],
 .seq (.b6 [i 2 (.box 5 t0) 0,
 i 4 (.alloc z0) 0] false)
 (.seq (.b6 [i 6 (.b0 t2 3) 0,
 i 7 (.load false 1 t6) 1,
 i 8 (.conv .i64 t7) 3,
 i 5 (mv t8) 7] false)
 (.seq (.seq (.b6 [i 9 (.b0 t2 0) 0,
 i 10 (.load false 1 t9) 1,
 i 11 (.bin .rem u2 (.c (.pv (.int .u8 (16))))) 3] false)
 (.block 0
 (.seq (.b6 [i 13 (.bin .eql w8 (.c (.pv (.int .u8 (0))))) 0,
 i 12 (mv B0) 1] false)
 (.cond z9
 (.seq (.b6 [i 14 (.build z0 [(0,1,.c (I 0))]) 0,
 iz (.store 7 t4 D1) 1] false)
 .ret)
 (.seq (.b6 [i 16 (.bin .eql w8 (.c (.pv (.int .u8 (1))))) 0,
 i 15 (mv G5) 1] false)
 (.cond G4
 (.seq (.b6 [i 17 (.build z0 [(0,1,.c (I 1))]) 0,
 iz (.store 7 t4 E9) 1] false)
 .ret)
 (.seq (.b6 [i 19 (.bin .eql w8 (.c (.pv (.int .u8 (2))))) 0,
 i 18 (mv M0) 1] false)
 (.cond I4
 (.seq (.b6 [i 20 (.b0 t2 1) 0,
 i 21 (.load false 1 O1) 1,
 i 22 (.bin .rem M6 (.c (.pv (.int .u8 (2))))) 3,
 i 23 (.conv .i64 R8) 7,
 i 24 (.build z0 [(0,1,.c (I 2)),(2,1,V1)]) 15,
 iz (.store 7 t4 X8) 31] false)
 .ret)
 (.seq (.seq (.b6 [i 26 (.bin .eql w8 (.c (.pv (.int .u8 (3))))) 0,
 i 25 (mv t26) 1] false)
 (.cond X6
 .skip
 (.b6 [i 27 (.bin .eql w8 (.c (.pv (.int .u8 (4))))) 0,
 i 25 (mv t27) 1] false)))
 (.cond X6
 (.seq (.b6 [i 28 (mv t5) 0,
 i 29 (.bin .rem t28 (.c (I 10))) 1,
 i 30 (.build z0 [(0,1,.c (I 3)),(2,1,t29)]) 3,
 iz (.store 7 t4 t30) 7] false)
 .ret)
 (.seq (.b6 [i 32 (.bin .eql w8 (.c (.pv (.int .u8 (5))))) 0,
 i 31 (mv t32) 1] false)
 (.cond t31
 (.seq (.b6 [i 33 (mv t5) 0,
 i 34 (.build z0 [(0,1,.c (I 3)),(2,1,t33)]) 1,
 iz (.store 7 t4 t34) 3] false)
 .ret)
 (.seq (.b6 [i 36 (.bin .eql w8 (.c (.pv (.int .u8 (6))))) 0,
 i 35 (mv t36) 1] false)
 (.cond t35
 (.seq (.b6 [i 37 (mv t5) 0,
 i 38 (.bin .rem t37 (.c (I 1048576))) 1,
 i 39 (.build z0 [(0,1,.c (I 4)),(2,1,t38)]) 3,
 iz (.store 7 t4 t39) 7] false)
 .ret)
 (.seq (.b6 [i 41 (.bin .eql w8 (.c (.pv (.int .u8 (7))))) 0,
 i 40 (mv t41) 1] false)
 (.cond t40
 (.seq (.b6 [i 42 (mv t5) 0,
 i 43 (.build z0 [(0,1,.c (I 4)),(2,1,t42)]) 1,
 iz (.store 7 t4 t43) 3] false)
 .ret)
 (.seq (.seq (.b6 [i 45 (.bin .eql w8 (.c (.pv (.int .u8 (8))))) 0,
 i 44 (mv t45) 1] false)
 (.cond t44
 .skip
 (.b6 [i 46 (.bin .eql w8 (.c (.pv (.int .u8 (9))))) 0,
 i 44 (mv t46) 1] false)))
 (.cond t44
 (.seq (.b6 [i 47 (.b0 t2 0) 0,
 i 48 (.load false 1 t47) 1,
 i 49 (.bin .rem t48 (.c (.pv (.int .u8 (16))))) 3,
 i 50 (.bin .eql t49 (.c (.pv (.int .u8 (9))))) 7,
 i 51 (.b0 t2 1) 0,
 i 52 (.load false 1 t51) 16,
 i 53 (.conv .i64 t52) 48,
 i 54 (.bin .rem t53 (.c (I 8))) 112,
 i 55 (.a8r 8 1 (.g 0) t54) 240,
 i 56 (.load false 1 t55) 496,
 i 57 (.build z0 [(0,1,.c (I 5)),(1,1,t50),(3,1,t56)]) 1023,
 iz (.store 7 t4 t57) 2047] true)
 .ret)
 (.seq (.b6 [i 59 (.bin .eql w8 (.c (.pv (.int .u8 (10))))) 0,
 i 58 (mv t59) 1] false)
 (.cond t58
 (.seq (.b6 [i 60 (mv t1) 0,
 i 61 (.load true 5 t2) 0,
 i 62 (.call (.f K7) [t60,.c (I 6),.c (I 1),t61]) 3,
 iz (.store 7 t4 t62) 7] false)
 .ret)
 (.seq (.b6 [i 64 (.bin .eql w8 (.c (.pv (.int .u8 (11))))) 0,
 i 63 (mv t64) 1] false)
 (.cond t63
 (.seq (.b6 [i 65 (mv t1) 0,
 i 66 (.load true 5 t2) 0,
 i 67 (.call (.f K7) [t65,.c (I 7),.c (I 2),t66]) 3,
 iz (.store 7 t4 t67) 7] false)
 .ret)
 (.seq (.b6 [i 69 (.bin .eql w8 (.c (.pv (.int .u8 (12))))) 0,
 i 68 (mv t69) 1] false)
 (.cond t68
 (.seq (.b6 [i 70 (mv t1) 0,
 i 71 (.load true 5 t2) 0,
 i 72 (.call (.f K7) [t70,.c (I 8),.c (I 2),t71]) 3,
 iz (.store 7 t4 t72) 7] false)
 .ret)
 (.seq (.b6 [i 74 (.bin .eql w8 (.c (.pv (.int .u8 (13))))) 0,
 i 73 (mv t74) 1] false)
 (.cond t73
 (.seq (.b6 [i 75 (mv t1) 0,
 i 76 (.load true 5 t2) 0,
 i 77 (.call (.f K7) [t75,.c (I 9),.c (I 3),t76]) 3,
 iz (.store 7 t4 t77) 7] false)
 .ret)
 (.seq (.b6 [i 79 (.bin .eql w8 (.c (.pv (.int .u8 (14))))) 0,
 i 78 (mv t79) 1] false)
 (.cond t78
 (.seq (.b6 [i 80 (.build z0 [(0,1,.c (I 10)),(1,1,.c (.pv (.bool true))),(3,1,.c (.pv (.str [97,100,100])))]) 0,
 iz (.store 7 t4 t80) 1] false)
 .ret)
 .skip))))))))))))))))))))))))))))
 (.seq (.b6 [i 81 (mv t1) 0,
 i 82 (.load true 5 t2) 0,
 i 83 (.call (.f K7) [t81,.c (I 11),.c (I 4),t82]) 3,
 iz (.store 7 t4 t83) 7] false)
 .ret)))⟩
def a2R:n6:=⟨2,12,[.cell 4 true 67],
 .seq (.b6 [i 2 (.box 67 t0) 0,
 i 4 (.alloc z1) 0] false)
 (.seq (.b6 [i 5 (.b0 t2 0) 0,
 i 6 (.load false 1 t5) 1,
 i 7 (.call (.f k7) [t6]) 3,
 i 8 (mv t1) 0,
 i 9 (.append 7 64 t7 t8) 15,
 i 10 (.b0 t2 0) 31,
 iz (.store 1 u2 t9) 63] false)
 (.seq (.b6 [i 11 (.load true 67 t2) 0,
 iz (.store 67 t4 w8) 1] false)
 .ret))⟩
def b0q:n6:=⟨2,26,[.cell 4 true 67,.tmp 5],
 .seq (.b6 [i 2 (.box 67 t0) 0,
 i 4 (.alloc z1) 0,
 i 5 (.mv (.c (I 0))) 0] false)
 (.seq (.b6 [i 9 (.b1v) 0,
 iz (.insert t9 (.c (.pv (.str [115,97,118,101]))) (.f x4)) 1,
 iz (.insert t9 (.c (.pv (.str [114,101,115,116,111,114,101]))) (.f l5)) 1,
 iz (.insert t9 (.c (.pv (.str [118,109,115,116,97,116,117,115]))) (.f u0)) 1,
 i 10 (mv t9) 15,
 i 6 (mv u2) 31] false)
 (.seq (.b6 [i 12 (mv t6) 0,
 i 13 (mv t1) 0,
 i 14 (.lookup z9 B0 (.pv .nilFunc)) 3,
 i 11 (mv D1) 7,
 i 15 (.extract w8 0) 15,
 i 16 (.extract w8 1) 15,
 i 7 (mv G4) 31,
 i 8 (mv G5) 127] false)
 (.seq (.seq (.b6 [i 17 (mv t8) 0,
 i 18 (.not E9) 1] false)
 (.cond I4
 (.seq (.b6 [i 19 (.load true 67 t2) 0,
 iz (.store 67 t4 M0) 1,
 i 5 (.mv (.c (I 24))) 3] false)
 .ret)
 .skip))
 (.seq (.b6 [i 20 (mv t7) 0,
 i 21 (.load true 67 t2) 0,
 i 22 (.build z1 [(0,67,M6)]) 2,
 i 23 (.call O1 [R8]) 7,
 i 24 (.extract V1 0) 15,
 i 25 (.extract V1 1) 15,
 iz (.store 67 t4 X8) 63,
 i 5 (mv X6) 127] false)
 .ret))))⟩
def S9:n6:=⟨2,149,[.tmp 4],
 .seq (.b6 [i 2 (.box 67 t0) 0,
 i 3 (.box 67 t1) 0,
 i 4 (.mv (.c (.pv (.bool false)))) 0] false)
 (.seq (.seq (.b6 [i 9 (.b0 t2 0) 0,
 i 10 (.load false 1 t9) 1,
 i 11 (.b0 t3 0) 0,
 i 12 (.load false 1 w8) 4,
 i 13 (.call (.f u7) [u2,z9]) 15,
 i 14 (.not B0) 31,
 i 15 (mv D1) 63,
 ig 16 (.b0 t2 1) 15 false 127,
 ig 17 (.load false 1 G5) 15 false 255,
 ig 18 (.b0 t3 1) 15 false 127,
 ig 19 (.load false 1 I4) 15 false 639,
 ig 20 (.call (.f u7) [E9,M0]) 15 false 2047,
 ig 21 (.not O1) 15 false 4095,
 i 22 (.pick G4 (.c (.pv (.bool true))) M6) 8191,
 i 23 (mv R8) 16383,
 ig 24 (.b0 t2 2) 23 false 32767,
 ig 25 (.load false 1 X8) 23 false 65535,
 ig 26 (.b0 t3 2) 23 false 32767,
 ig 27 (.load false 1 t26) 23 false 163839,
 ig 28 (.call (.f Q0) [X6,t27]) 23 false 524287,
 ig 29 (.not t28) 23 false 1048575,
 i 30 (.pick V1 (.c (.pv (.bool true))) t29) 2097151,
 i 31 (mv t30) 4194303,
 ig 32 (.b0 t2 3) 31 false 8388607,
 ig 33 (.load false 1 t32) 31 false 16777215,
 ig 34 (.j1 t33) 31 false 33554431,
 ig 35 (.b0 t3 3) 31 false 8388607,
 ig 36 (.load false 1 t35) 31 false 75497471,
 ig 37 (.j1 t36) 31 false 209715199,
 ig 38 (.bin .neq t34 t37) 31 false 536870911,
 i 39 (.pick t31 (.c (.pv (.bool true))) t38) 1073741823,
 i 40 (mv t39) 2147483647,
 ig 41 (.b0 t2 4) 40 false 4294967295,
 ig 42 (.load false 1 t41) 40 false 8589934591,
 ig 43 (.b0 t3 4) 40 false 4294967295,
 ig 44 (.load false 1 t43) 40 false 21474836479,
 ig 45 (.bin .neq t42 t44) 40 false 68719476735,
 i 46 (.pick t40 (.c (.pv (.bool true))) t45) 137438953471,
 i 47 (mv t46) 274877906943,
 ig 48 (.b0 t2 62) 47 false 549755813887,
 ig 49 (.load false 1 t48) 47 false 1099511627775,
 ig 50 (.j1 t49) 47 false 2199023255551,
 ig 51 (.b0 t3 62) 47 false 549755813887,
 ig 52 (.load false 1 t51) 47 false 4947802324991,
 ig 53 (.j1 t52) 47 false 13743895347199,
 ig 54 (.bin .neq t50 t53) 47 false 35184372088831,
 i 55 (.pick t47 (.c (.pv (.bool true))) t54) 70368744177663,
 i 56 (mv t55) 140737488355327,
 ig 57 (.b0 t2 65) 56 false 281474976710655,
 ig 58 (.load false 1 t57) 56 false 562949953421311,
 ig 59 (.b0 t3 65) 56 false 281474976710655,
 ig 60 (.load false 1 t59) 56 false 1407374883553279,
 ig 61 (.bin .neq t58 t60) 56 false 4503599627370495,
 i 62 (.pick t56 (.c (.pv (.bool true))) t61) 9007199254740991,
 i 63 (mv t62) 18014398509481983,
 ig 64 (.b0 t2 66) 63 false 36028797018963967,
 ig 65 (.load false 1 t64) 63 false 72057594037927935,
 ig 66 (.b0 t3 66) 63 false 36028797018963967,
 ig 67 (.load false 1 t66) 63 false 180143985094819839,
 ig 68 (.bin .neq t65 t67) 63 false 576460752303423487,
 i 69 (.pick t63 (.c (.pv (.bool true))) t68) 1152921504606846975] false)
 (.cond t69
 (.seq (.b6 [i 4 (.mv (.c (.pv (.bool false)))) 0] false)
 .ret)
 .skip))
 (.seq (.seq (.b6 [i 5 (.mv (.c (I 0))) 0] false)
 (.block 0
 (.loop [2,3,5]
 (.seq (.seq (.b6 [i 70 (mv t5) 0,
 i 71 (.b0 t2 3) 0,
 i 72 (.load false 1 t71) 2,
 i 73 (.j1 t72) 6,
 i 74 (.bin .lss t70 t73) 15] false)
 (.cond t74
 .skip
 (.exit 0)))
 (.seq (.block 1
 (.seq (.b6 [i 77 (.b0 t2 3) 0,
 i 78 (.load false 1 t77) 1,
 i 79 (mv t5) 0,
 i 80 (.j4 3 t78 t79) 7,
 i 81 (.load true 3 t80) 15,
 i 82 (.b0 t3 3) 0,
 i 83 (.load false 1 t82) 32,
 i 84 (mv t5) 0,
 i 85 (.j4 3 t83 t84) 224,
 i 86 (.load true 3 t85) 480,
 i 6 (.alloc [I 0,.emp 7,I 0]) 0,
 i 7 (.alloc [I 0,.emp 7,I 0]) 0,
 iz (.store 3 t6 t81) 3103,
 iz (.store 3 t7 t86) 8191] true)
 (.seq (.b6 [i 87 (.b0 t6 0) 0,
 i 88 (.load false 1 t87) 1,
 i 89 (.b0 t7 0) 0,
 i 90 (.load false 1 t89) 4,
 i 91 (.bin .neq t88 t90) 15,
 i 92 (mv t91) 31,
 ig 93 (.b0 t6 2) 92 false 63,
 ig 94 (.load false 1 t93) 92 false 127,
 ig 95 (.b0 t7 2) 92 false 63,
 ig 96 (.load false 1 t95) 92 false 319,
 ig 97 (.bin .neq t94 t96) 92 false 1023,
 i 98 (.pick t92 (.c (.pv (.bool true))) t97) 2047,
 i 99 (mv t98) 4095,
 ig 100 (.b0 t6 1) 99 false 8191,
 ig 101 (.load false 1 b8d) 99 false 16383,
 ig 102 (.b0 t7 1) 99 false 8191,
 ig 103 (.load false 1 b8f) 99 false 40959,
 ig 104 (.call (.f Q0) [b8e,b8g]) 99 false 131071,
 ig 105 (.not b9d) 99 false 262143,
 i 106 (.pick t99 (.c (.pv (.bool true))) b9e) 524287] false)
 (.cond b9f
 (.seq (.b6 [i 4 (.mv (.c (.pv (.bool false)))) 0] false)
 .ret)
 .skip))))
 (.b6 [i 75 (mv t5) 0,
 i 76 (.bin .add t75 (.c (I 1))) 1,
 i 5 (mv t76) 3] false))))))
 (.seq (.seq (.b6 [i 8 (.mv (.c (I 0))) 0] false)
 (.block 2
 (.loop [2,3,8]
 (.seq (.seq (.b6 [i 107 (mv t8) 0,
 i 108 (.b0 t2 62) 0,
 i 109 (.load false 1 b9h) 2,
 i 110 (.j1 b9i) 6,
 i 111 (.bin .lss b9g b9j) 15] false)
 (.cond b9k
 .skip
 (.exit 2)))
 (.seq (.block 3
 (.seq (.b6 [i 114 (.b0 t2 62) 0,
 i 115 (.load false 1 c1y) 1,
 i 116 (mv t8) 0,
 i 117 (.j4 57 c1z c1A) 7,
 i 118 (.load true 57 c1B) 15,
 i 119 (.b0 t3 62) 0,
 i 120 (.load false 1 c1D) 32,
 i 121 (mv t8) 0,
 i 122 (.j4 57 c1E b9l) 224,
 i 123 (.load true 57 c1F) 480,
 i 124 (.call (.f L8) [c1C,c1G]) 1023,
 i 125 (.not c1H) 2047] true)
 (.cond c1I
 (.seq (.b6 [i 4 (.mv (.c (.pv (.bool false)))) 0] false)
 .ret)
 .skip)))
 (.b6 [i 112 (mv t8) 0,
 i 113 (.bin .add c1w (.c (I 1))) 1,
 i 8 (mv c1x) 3] false))))))
 (.seq (.b6 [i 126 (.b0 t2 5) 0,
 i 127 (.load true 57 c1J) 1,
 i 128 (.b0 t3 5) 0,
 i 129 (.load true 57 c1K) 4,
 i 130 (.call (.f L8) [b9m,c1L]) 15,
 i 131 (mv c1M) 31,
 ig 132 (.b0 t2 63) 131 true 63,
 ig 133 (.load false 1 c1O) 131 true 127,
 ig 134 (.j1 c1P) 131 true 255,
 ig 135 (.b0 t3 63) 131 true 63,
 ig 136 (.load false 1 c1R) 131 true 575,
 ig 137 (.j1 c1S) 131 true 1599,
 ig 138 (.bin .eql c1Q c1T) 131 true 4095,
 i 139 (.pick c1N c1U (.c (.pv (.bool false)))) 8191,
 i 140 (mv c3V) 16383,
 ig 141 (.b0 t2 64) 140 true 32767,
 ig 142 (.load false 1 c3X) 140 true 65535,
 ig 143 (.j1 c3Y) 140 true 131071,
 ig 144 (.b0 t3 64) 140 true 32767,
 ig 145 (.load false 1 c4a) 140 true 294911,
 ig 146 (.j1 c4b) 140 true 819199,
 ig 147 (.bin .eql c3Z c4c) 140 true 2097151,
 i 148 (.pick c3W c4d (.c (.pv (.bool false)))) 4194303,
 i 4 (mv c4e) 8388607] false)
 .ret))))⟩
def a5N:n6:=⟨2,23,[.tmp 4,.tmp 5],
 .seq (.b6 [i 2 (.box 67 t0) 0,
 i 4 (.mv (.c (I 0))) 0,
 i 5 (.mv (.c (.pv (.bool false)))) 2] false)
 (.seq (.b6 [i 8 (.load true 67 t2) 0,
 i 9 (.build z1 [(0,67,t8)]) 1,
 i 6 (.alloc z1) 0,
 iz (.store 67 t6 t9) 7] false)
 (.seq (.b6 [i 10 (.load true 67 t6) 0,
 i 11 (mv t1) 0,
 i 12 (.call (.f C8) [u2,w8]) 3,
 i 7 (mv z9) 7] false)
 (.seq (.seq (.b6 [i 13 (mv t7) 0,
 i 14 (.bin .lss B0 (.c (I 0))) 1] false)
 (.cond D1
 (.seq (.b6 [i 4 (.mv (.c (I 0))) 0,
 i 5 (.mv (.c (.pv (.bool false)))) 1] false)
 .ret)
 .skip))
 (.seq (.b6 [i 15 (.b0 t6 0) 0,
 i 16 (.b0 G4 3) 1,
 i 17 (.load false 1 G5) 3,
 i 18 (mv t7) 0,
 i 19 (.j4 3 E9 I4) 15,
 i 20 (.b0 M0 1) 31,
 i 21 (.load false 1 O1) 63,
 i 22 (.j1 M6) 127,
 i 4 (mv R8) 255,
 i 5 (.mv (.c (.pv (.bool true)))) 511] false)
 .ret))))⟩
def a8f:n6:=⟨2,22,[.tmp 4],
 .seq (.b6 [i 2 (.box 67 t0) 0,
 i 4 (.mv (.c (I 0))) 0] false)
 (.seq (.seq (.b6 [i 5 (.mv (.c (I 0))) 0] false)
 (.block 0
 (.loop [1,2,5]
 (.seq (.seq (.b6 [i 6 (mv t5) 0,
 i 7 (.b0 t2 3) 0,
 i 8 (.load false 1 t7) 2,
 i 9 (.j1 t8) 6,
 i 10 (.bin .lss t6 t9) 15] false)
 (.cond u2
 .skip
 (.exit 0)))
 (.seq (.block 1
 (.seq (.b6 [i 13 (.b0 t2 3) 0,
 i 14 (.load false 1 B0) 1,
 i 15 (mv t5) 0,
 i 16 (.j4 3 D1 G4) 7,
 i 17 (.b0 G5 0) 15,
 i 18 (.load false 1 E9) 31,
 i 19 (mv t1) 0,
 i 20 (.bin .eql I4 M0) 127] false)
 (.cond O1
 (.seq (.b6 [i 21 (mv t5) 0,
 i 4 (mv M6) 1] false)
 .ret)
 .skip)))
 (.b6 [i 11 (mv t5) 0,
 i 12 (.bin .add w8 (.c (I 1))) 1,
 i 5 (mv z9) 3] false))))))
 (.seq (.b6 [i 4 (.mv (.c (I (-1)))) 0] false)
 .ret))⟩
def a4x:n6:=⟨0,185,[.tmp 0],
 .seq (.b6 [i 0 (.mv (.c (.pv (.bool false)))) 0] false)
 (.seq (.b6 [i 22 (.call (.f a0Z) []) 0,
 i 1 (mv R8) 1] false)
 (.seq (.b6 [i 23 (.build z0 [(0,1,.c (I 9)),(4,1,.c (I 2))]) 0,
 i 2 (.alloc z0) 0,
 iz (.store 7 t2 V1) 3] false)
 (.seq (.b6 [i 25 (mv t1) 0,
 i 26 (.call (.f O5) [.c (I 0),.c (I 1),.c (I 2)]) 0,
 i 27 (.call (.f P7) [X6,t26]) 3,
 i 24 (mv t27) 7,
 i 28 (.extract X8 0) 15,
 i 29 (.extract X8 1) 15,
 i 3 (mv t28) 31,
 i 4 (mv t29) 127] false)
 (.seq (.b6 [i 31 (mv t1) 0,
 i 32 (.build z0 [(0,1,.c (I 7)),(4,1,.c (I 1)),(5,1,.c (I 1)),(6,1,.c (I 1))]) 0,
 i 33 (.call (.f a3e) [t31,t32]) 3,
 i 30 (mv t33) 7,
 i 34 (.extract t30 0) 15,
 i 35 (.extract t30 1) 15,
 i 5 (mv t34) 31,
 i 6 (mv t35) 127] false)
 (.seq (.b6 [i 37 (mv t1) 0,
 i 38 (.call (.f O5) [.c (I 0),.c (I 1),.c (I 4)]) 0,
 i 39 (.call (.f J2) [t37,t38,.c (I 3),.c (.pv (.str [88]))]) 3,
 i 36 (mv t39) 7,
 i 40 (.extract t36 0) 15,
 i 41 (.extract t36 1) 15,
 i 7 (mv t40) 31,
 i 8 (mv t41) 127] false)
 (.seq (.b6 [i 43 (mv t1) 0,
 i 44 (.call (.f O5) [.c (I 0),.c (I 0),.c (I 1)]) 0,
 i 45 (.call (.f a0s) [t43,t44]) 3,
 i 42 (mv t45) 7,
 i 46 (.extract t42 0) 15,
 i 47 (.extract t42 1) 15,
 i 9 (.alloc z0) 0,
 iz (.store 7 t9 t46) 95,
 i 10 (mv t47) 255] false)
 (.seq (.b6 [i 49 (mv t1) 0,
 i 50 (.load true 7 t2) 0,
 i 51 (.load true 7 t9) 0,
 i 52 (.call (.f U4) [t49,t50,t51]) 7,
 i 48 (mv t52) 15,
 i 53 (.extract t48 0) 31,
 i 54 (.extract t48 1) 31,
 i 55 (.extract t48 2) 31,
 i 11 (.alloc z0) 0,
 iz (.store 7 w8 t53) 319,
 i 12 (mv t54) 895,
 i 13 (mv t55) 2047] false)
 (.seq (.b6 [i 57 (mv t1) 0,
 i 58 (.load true 7 t2) 0,
 i 59 (.call (.f F8) [.c (.pv (.str [98]))]) 0,
 i 60 (.call (.f F8) [.c (.pv (.str [99]))]) 4,
 i 61 (.call (.f P8) [t57,t58,t59,t60]) 15,
 i 56 (mv t61) 31,
 i 62 (.extract t56 0) 63,
 i 63 (.extract t56 1) 63,
 i 14 (mv t62) 127,
 i 15 (mv t63) 511] true)
 (.seq (.b6 [i 65 (mv D1) 0,
 i 66 (.load true 7 t2) 0,
 i 67 (.call (.f F8) [.c (.pv (.str [99]))]) 0,
 i 68 (.call (.f F8) [.c (.pv (.str [99]))]) 4,
 i 69 (.call (.f P8) [t65,t66,t67,t68]) 15,
 i 64 (mv t69) 31,
 i 70 (.extract t64 0) 63,
 i 71 (.extract t64 1) 63,
 i 16 (mv t70) 127,
 i 17 (mv t71) 511] true)
 (.seq (.b6 [i 73 (mv t1) 0,
 i 74 (.build z2 [(0,1,.c (I 3)),(5,1,.c (I 10000))]) 0,
 i 75 (.call (.f a6c) [t73,t74]) 3,
 i 72 (mv t75) 7,
 i 76 (.extract t72 0) 15,
 i 77 (.extract t72 1) 15,
 i 78 (.extract t72 2) 15,
 i 18 (mv t76) 31,
 i 19 (mv t77) 191,
 i 20 (mv t78) 511] false)
 (.seq (.b6 [i 79 (mv t4) 0,
 i 80 (.bin .eql t79 (.c (I 0))) 1,
 i 81 (mv t80) 3,
 ig 82 (mv t6) 81 true 7,
 ig 83 (.bin .eql t82 (.c (I 0))) 81 true 15,
 i 84 (.pick t81 t83 (.c (.pv (.bool false)))) 31,
 i 85 (mv t84) 63,
 ig 86 (mv t8) 85 true 127,
 ig 87 (.bin .eql t86 (.c (I 0))) 85 true 255,
 i 88 (.pick t85 t87 (.c (.pv (.bool false)))) 511,
 i 89 (mv t88) 1023,
 ig 90 (mv u2) 89 true 2047,
 ig 91 (.bin .eql t90 (.c (I 0))) 89 true 4095,
 i 92 (.pick t89 t91 (.c (.pv (.bool false)))) 8191,
 i 93 (mv t92) 16383,
 ig 94 (mv B0) 93 true 32767,
 ig 95 (.bin .eql t94 (.c (I 0))) 93 true 65535,
 i 96 (.pick t93 t95 (.c (.pv (.bool false)))) 131071,
 i 97 (mv t96) 262143,
 ig 98 (mv G4) 97 true 524287,
 ig 99 (.bin .eql t98 (.c (I 0))) 97 true 1048575,
 i 100 (.pick t97 t99 (.c (.pv (.bool false)))) 2097151,
 i 101 (mv b8d) 4194303,
 ig 102 (mv O1) 101 true 8388607,
 ig 103 (.bin .eql b8f (.c (I 0))) 101 true 16777215,
 i 104 (.pick b8e b8g (.c (.pv (.bool false)))) 33554431,
 i 21 (mv b9d) 67108863] false)
 (.seq (.b6 [i 105 (mv M6) 0,
 i 106 (mv b9e) 1,
 ig 107 (mv t1) 106 true 3,
 ig 108 (.call (.f K3) [b9g]) 106 true 7,
 ig 109 (.bin .eql b9h (.c (I 0))) 106 true 15,
 i 110 (.pick b9f b9i (.c (.pv (.bool false)))) 31,
 i 111 (mv b9j) 63,
 ig 112 (mv t1) 111 true 127,
 ig 113 (.call (.f F7) [c1w]) 111 true 255,
 ig 114 (.bin .eql c1x (.c (I 16))) 111 true 511,
 i 115 (.pick b9k c1y (.c (.pv (.bool false)))) 1023,
 i 116 (mv c1z) 2047,
 ig 117 (mv t3) 116 true 4095,
 ig 118 (.bin .eql c1B (.c (.pv (.str [98,99])))) 116 true 8191,
 i 119 (.pick c1A c1C (.c (.pv (.bool false)))) 16383,
 i 120 (mv c1D) 32767,
 ig 121 (mv t5) 120 true 65535,
 ig 122 (.j1 b9l) 120 true 131071,
 ig 123 (.bin .eql c1F (.c (I 1))) 120 true 262143,
 i 124 (.pick c1E c1G (.c (.pv (.bool false)))) 524287,
 i 125 (mv c1H) 1048575,
 ig 126 (mv t5) 125 true 2097151,
 ig 127 (.j4 7 c1J (.c (I 0))) 125 true 4194303,
 ig 128 (.load true 7 b9m) 125 true 8388607,
 ig 129 (.call (.f O5) [.c (I 0),.c (I 2),.c (I 2)]) 125 true 2097151,
 ig 130 (.eqs false [0,1,0,2,0,0,0] c1K c1L) 125 true 33554431,
 i 131 (.pick c1I c1M (.c (.pv (.bool false)))) 67108863,
 i 132 (mv c1N) 134217727,
 ig 133 (mv t7) 132 true 268435455,
 ig 134 (.j1 c1P) 132 true 536870911,
 ig 135 (.bin .eql c1Q (.c (I 3))) 132 true 1073741823,
 i 136 (.pick c1O c1R (.c (.pv (.bool false)))) 2147483647,
 i 137 (mv c1S) 4294967295,
 ig 138 (mv t7) 137 true 8589934591,
 ig 139 (.j4 7 c1U (.c (I 0))) 137 true 17179869183,
 ig 140 (.b0 c3V 1) 137 true 34359738367,
 ig 141 (.load false 1 c3W) 137 true 68719476735,
 ig 142 (.bin .eql c3X (.c (.pv (.str [97,98,99,100,88,102])))) 137 true 137438953471,
 i 143 (.pick c1T c3Y (.c (.pv (.bool false)))) 274877906943,
 i 144 (mv c3Z) 549755813887,
 ig 145 (.load true 7 t9) 144 true 1099511627775,
 ig 146 (.call (.f F8) [.c (.pv (.str [97]))]) 144 true 1099511627775,
 ig 147 (.eqs false [0,1,0,2,0,0,0] c4b c4c) 144 true 4398046511103,
 i 148 (.pick c4a c4d (.c (.pv (.bool false)))) 8796093022207,
 i 149 (mv c4e) 17592186044415,
 ig 150 (mv z9) 149 true 35184372088831,
 i 151 (.pick c5n c5o (.c (.pv (.bool false)))) 70368744177663,
 i 152 (mv c5p) 140737488355327,
 ig 153 (.b0 w8 2) 152 true 281474976710655,
 ig 154 (.load false 1 c5r) 152 true 562949953421311,
 ig 155 (.bin .eql c5s (.c (I 7))) 152 true 1125899906842623,
 i 156 (.pick c5q c5t (.c (.pv (.bool false)))) 2251799813685247,
 i 157 (mv c5u) 4503599627370495,
 ig 158 (mv E9) 157 true 9007199254740991,
 ig 159 (.bin .eql c7f (.c (I 30))) 157 true 18014398509481983,
 i 160 (.pick c7e c7g (.c (.pv (.bool false)))) 36028797018963967,
 i 161 (mv c7h) 72057594037927935,
 ig 162 (mv M0) 161 true 144115188075855871,
 ig 163 (.bin .eql c5v (.c (I 3))) 161 true 288230376151711743,
 i 164 (.pick c7i c7j (.c (.pv (.bool false)))) 576460752303423487,
 i 165 (mv c7k) 1152921504606846975,
 ig 166 (mv t1) 165 true 2305843009213693951,
 ig 167 (.call (.f O5) [.c (I 0),.c (I 0),.c (I 1)]) 165 true 2305843009213693951,
 ig 168 (.call (.f F8) [.c (.pv (.str [97]))]) 165 true 6917529027641081855,
 ig 169 (.call (.f a3d) [c9w,c9x,c9y]) 165 true 18446744073709551615,
 i 170 (.pick c7l c9z (.c (.pv (.bool false)))) 36893488147419103231,
 i 171 (mv c9A) 73786976294838206463,
 ig 172 (mv t1) 171 true 147573952589676412927,
 ig 173 (.build z0 [(0,1,.c (I 7)),(4,1,.c (I 1)),(6,1,.c (I 1))]) 171 true 147573952589676412927,
 ig 174 (.O2 7 1 z0 [(0,c9D)]) 171 true 442721857769029238783,
 ig 175 (.call (.f a3f) [c9C,c9E]) 171 true 1180591620717411303423,
 ig 176 (.O2 1 3 [.pv (.bool false)] [(0,.c (.pv (.bool true))),(1,.c (.pv (.bool true))),(2,.c (.pv (.bool false)))]) 171 true 147573952589676412927,
 ig 177 (.call (.f M4) [c9F,c9G]) 171 true 4722366482869645213695,
 i 178 (.pick c9B c9H (.c (.pv (.bool false)))) 9444732965739290427391,
 i 179 (mv c9I) 18889465931478580854783,
 ig 180 (.build z2 []) 179 true 37778931862957161709567,
 ig 181 (.O2 7 1 z2 [(0,c9K)]) 179 true 75557863725914323419135,
 ig 182 (.call (.f K3) [c9L]) 179 true 151115727451828646838271,
 ig 183 (.bin .eql c9M (.c (I 210))) 179 true 302231454903657293676543,
 i 184 (.pick c9J c9N (.c (.pv (.bool false)))) 604462909807314587353087,
 i 0 (mv c9O) 1208925819614629174706175] true)
 .ret))))))))))))⟩
def a5F:n6:=⟨1,32,[.tmp 2],
 .seq (.b6 [i 2 (.mv (.c (I 0))) 0] false)
 (.scope
 (.seq (.seq (.b6 [i 9 (mv t0) 0,
 i 10 (.call (.f F7) [t9]) 1,
 i 11 (.bin .gtr u2 (.c (I 20000))) 3] false)
 (.cond w8
 (.seq (.b6 [i 2 (.mv (.c (I 210))) 0] false)
 .ret)
 .skip))
 (.seq (.b6 [i 12 (mv t0) 0,
 i 13 (.build [.emp 7] [(0,1,z9)]) 1,
 i 3 (.alloc [.emp 7]) 0,
 iz (.store 1 t3 B0) 7,
 i 4 (.mv (.c (I 0))) 15] false)
 (.seq .skip
 (.seq (.seq (.b6 [i 14 (mv t0) 0,
 i 15 (.j1 D1) 1,
 i 16 (.mv (.c (I 0))) 0] false)
 (.block 0
 (.loop [3,4,14,15,16]
 (.seq (.b6 [i 17 (.bin .lss G5 G4) 0] false)
 (.seq (.cond E9
 .skip
 (.exit 0))
 (.seq (.block 1
 (.seq (.b6 [i 18 (.j4 7 D1 G5) 0,
 i 19 (.load true 7 I4) 1,
 i 6 (.alloc z2) 0,
 iz (.store 7 t6 M0) 7] false)
 (.seq (.b6 [i 20 (.build [.pv .nilFunc,.pv .nilFunc,.pv .nilFunc] [(0,1,.f K4),(1,1,.f D9),(2,1,.f H3)]) 0,
 i 21 (.mv (.c (I 0))) 0] false)
 (.block 2
 (.loop [3,4,6,14,15,16,20,21]
 (.seq (.b6 [i 22 (.bin .lss M6 (.c (I 3))) 0] false)
 (.seq (.cond R8
 .skip
 (.exit 2))
 (.seq (.block 3
 (.seq (.b6 [i 23 (.index false 3 1 O1 M6) 0,
 i 8 (mv V1) 1] false)
 (.seq (.b6 [i 24 (mv t8) 0,
 i 25 (.load true 1 t3) 0,
 i 26 (.load true 7 t6) 0,
 i 27 (.call X8 [X6,t26]) 7,
 i 28 (.not t27) 15] false)
 (.cond t28
 (.seq (.b6 [i 4 (.mv (.c (I 210))) 0] false)
 (.exit 0))
 .skip))))
 (.b6 [i 29 (.bin .add M6 (.c (I 1))) 0,
 i 21 (mv t29) 1] false)))))))))
 (.b6 [i 30 (.bin .add G5 (.c (I 1))) 0,
 i 16 (mv t30) 1] false)))))))
 (.seq (.b6 [i 31 (mv t4) 0,
 i 2 (mv t31) 1] false)
 .ret))))))⟩
def a2P:n6:=⟨1,18,[.tmp 2],
 .seq (.b6 [i 2 (.mv (.c (I 0))) 0] false)
 (.seq (.b6 [i 3 (.mv (.c (I 0))) 0] false)
 (.seq (.seq (.b6 [i 6 (mv t0) 0,
 i 7 (.j1 t6) 1,
 i 8 (.mv (.c (I 0))) 0] false)
 (.block 0
 (.loop [3,6,7,8]
 (.seq (.b6 [i 9 (.bin .lss t8 t7) 0] false)
 (.seq (.cond t9
 .skip
 (.exit 0))
 (.seq (.block 1
 (.seq (.b6 [i 10 (.j4 7 t6 t8) 0,
 i 11 (.load true 7 u2) 1,
 i 5 (.alloc z2) 0,
 iz (.store 7 t5 w8) 7] false)
 (.b6 [i 12 (mv t3) 0,
 i 13 (.load true 7 t5) 0,
 i 14 (.call (.f O4) [B0]) 2,
 i 15 (.bin .add z9 D1) 7,
 i 3 (mv G4) 15] false)))
 (.b6 [i 16 (.bin .add t8 (.c (I 1))) 0,
 i 8 (mv G5) 1] false)))))))
 (.seq (.b6 [i 17 (mv t3) 0,
 i 2 (mv E9) 1] false)
 .ret)))⟩
def a8b:n6:=⟨1,19,[.tmp 2],
 .seq (.b6 [i 2 (.mv (.c (I 0))) 0] false)
 (.seq (.b6 [i 3 (.mv (.c (I 0))) 0] false)
 (.seq (.seq (.b6 [i 4 (.mv (.c (I 0))) 0] false)
 (.block 0
 (.loop [0,3,4]
 (.seq (.seq (.b6 [i 5 (mv t4) 0,
 i 6 (mv t0) 0,
 i 7 (.j1 t6) 2,
 i 8 (.bin .lss t5 t7) 7] false)
 (.cond t8
 .skip
 (.exit 0)))
 (.seq (.block 1
 (.b6 [i 11 (mv t3) 0,
 i 12 (mv t0) 0,
 i 13 (mv t4) 0,
 i 14 (.j4 7 z9 B0) 6,
 i 15 (.load true 7 D1) 14,
 i 16 (.call (.f a1a) [G4]) 30,
 i 17 (.bin .add w8 G5) 63,
 i 3 (mv E9) 127] false))
 (.b6 [i 9 (mv t4) 0,
 i 10 (.bin .add t9 (.c (I 1))) 1,
 i 4 (mv u2) 3] false))))))
 (.seq (.b6 [i 18 (mv t3) 0,
 i 2 (mv I4) 1] false)
 .ret)))⟩
def a3Z:n6:=⟨1,20,[.tmp 2],
 .seq (.b6 [i 1 (.box 7 t0) 0,
 i 2 (.mv (.c (I 0))) 0] false)
 (.seq (.seq (.b6 [i 3 (.b0 t1 0) 0,
 i 4 (.load false 1 t3) 1,
 i 5 (.bin .eql t4 (.c (I 3))) 3] false)
 (.cond t5
 (.seq (.b6 [i 6 (.b0 t1 5) 0,
 i 7 (.load false 1 t6) 1,
 i 8 (.mm false [t7,.c (I 200)]) 3,
 i 9 (.mm true [.c (I 0),t8]) 7,
 i 10 (.bin .mul (.c (I 2)) t9) 15,
 i 11 (.bin .add (.c (I 1)) u2) 31,
 i 2 (mv w8) 63] false)
 .ret)
 .skip))
 (.seq (.b6 [i 12 (.b0 t1 1) 0,
 i 13 (.load false 1 z9) 1,
 i 14 (.J0 B0) 3,
 i 15 (.bin .add (.c (I 1)) D1) 7,
 i 16 (.b0 t1 2) 0,
 i 17 (.load false 1 G5) 16,
 i 18 (.j1 E9) 48,
 i 19 (.bin .add G4 I4) 127,
 i 2 (mv M0) 255] false)
 .ret))⟩
def a9e:n6:=⟨1,24,[.tmp 2],
 .seq (.b6 [i 1 (.box 7 t0) 0,
 i 2 (.mv (.c (I 0))) 0] false)
 (.seq (.seq (.b6 [i 3 (.b0 t1 0) 0,
 i 4 (.load false 1 t3) 1,
 i 5 (.bin .neq t4 (.c (I 3))) 3] false)
 (.cond t5
 (.seq (.b6 [i 6 (.b0 t1 1) 0,
 i 7 (.load false 1 t6) 1,
 i 8 (.J0 t7) 3,
 i 9 (.bin .add (.c (I 1)) t8) 7,
 i 10 (.b0 t1 2) 0,
 i 11 (.load false 1 u2) 16,
 i 12 (.j1 w8) 48,
 i 13 (.bin .add t9 z9) 127,
 i 2 (mv B0) 255] false)
 .ret)
 .skip))
 (.seq (.seq (.b6 [i 14 (.b0 t1 5) 0,
 i 15 (.load false 1 D1) 1,
 i 16 (.bin .lss G4 (.c (I 0))) 3] false)
 (.cond G5
 (.seq (.b6 [i 2 (.mv (.c (I 1))) 0] false)
 .ret)
 .skip))
 (.seq (.seq (.b6 [i 17 (.b0 t1 5) 0,
 i 18 (.load false 1 E9) 1,
 i 19 (.bin .gtr I4 (.c (I 200))) 3] false)
 (.cond M0
 (.seq (.b6 [i 2 (.mv (.c (I 401))) 0] false)
 .ret)
 .skip))
 (.seq (.b6 [i 20 (.b0 t1 5) 0,
 i 21 (.load false 1 O1) 1,
 i 22 (.bin .mul (.c (I 2)) M6) 3,
 i 23 (.bin .add (.c (I 1)) R8) 7,
 i 2 (mv V1) 15] false)
 .ret))))⟩
def a2h:n6:=⟨2,51,[.tmp 4],
 .seq (.b6 [i 3 (.box 7 t1) 0,
 i 4 (.mv (.c (.pv (.bool false)))) 0] false)
 (.seq (.seq (.b6 [i 6 (.load true 7 t3) 0,
 i 7 (.call (.f o4) [t6]) 1,
 i 8 (.bin .neq t7 (.c (I 0))) 3] false)
 (.cond t8
 (.seq (.b6 [i 4 (.mv (.c (.pv (.bool false)))) 0] false)
 .ret)
 .skip))
 (.seq (.b6 [i 9 (.b0 t3 0) 0,
 i 10 (.load false 1 t9) 1,
 i 11 (.call (.f B5) [u2]) 3,
 i 5 (mv w8) 7] false)
 (.seq (.seq (.b6 [i 12 (mv t5) 0,
 i 13 (.bin .eql z9 (.c (I 0))) 1] false)
 (.cond B0
 (.seq (.b6 [i 4 (.mv (.c (.pv (.bool true)))) 0] false)
 .ret)
 .skip))
 (.seq (.seq (.b6 [i 14 (.b0 t3 4) 0,
 i 15 (.load false 1 D1) 1,
 i 16 (mv t0) 0,
 i 17 (.j1 G5) 4,
 i 18 (.bin .geq G4 E9) 15,
 i 19 (mv I4) 31,
 ig 20 (mv t0) 19 false 63,
 ig 21 (.b0 t3 4) 19 false 63,
 ig 22 (.load false 1 M6) 19 false 191,
 ig 23 (.j4 7 O1 R8) 19 false 511,
 ig 24 (.b0 V1 0) 19 false 1023,
 ig 25 (.load false 1 X8) 19 false 2047,
 ig 26 (mv t5) 19 false 63,
 ig 27 (.bin .neq X6 t26) 19 false 8191,
 i 28 (.pick M0 (.c (.pv (.bool true))) t27) 16383] false)
 (.cond t28
 (.seq (.b6 [i 4 (.mv (.c (.pv (.bool false)))) 0] false)
 .ret)
 .skip))
 (.seq (.b6 [i 29 (.b0 t3 0) 0,
 i 30 (.load false 1 t29) 1,
 i 31 (.bin .eql t30 (.c (I 9))) 3,
 i 32 (mv t31) 7,
 ig 33 (.b0 t3 0) 32 false 15,
 ig 34 (.load false 1 t33) 32 false 31,
 ig 35 (.bin .eql t34 (.c (I 11))) 32 false 63,
 i 36 (.pick t32 (.c (.pv (.bool true))) t35) 127,
 i 37 (mv t36) 255,
 ig 38 (.b0 t3 5) 37 false 511,
 ig 39 (.load false 1 t38) 37 false 1023,
 ig 40 (.b0 t3 6) 37 false 511,
 ig 41 (.load false 1 t40) 37 false 2559,
 ig 42 (.bin .add t39 t41) 37 false 8191,
 ig 43 (mv t0) 37 false 511,
 ig 44 (.b0 t3 4) 37 false 511,
 ig 45 (.load false 1 t44) 37 false 33279,
 ig 46 (.j4 7 t43 t45) 37 false 115199,
 ig 47 (.load true 7 t46) 37 false 246271,
 ig 48 (.call (.f G0) [t47]) 37 false 508415,
 ig 49 (.bin .leq t42 t48) 37 false 1048575,
 i 50 (.pick t37 (.c (.pv (.bool true))) t49) 2097151,
 i 4 (mv t50) 4194303] true)
 .ret)))))⟩
def a8x:n6:=⟨2,24,[.tmp 4,.tmp 5,.tmp 6],
 .seq (.b6 [i 3 (.box 7 t1) 0,
 i 4 (.mv (.c (.emp 7))) 0,
 i 5 (.mv (.c (I 0))) 2,
 i 6 (.mv (.c (I 0))) 6] false)
 (.seq (.seq (.b6 [i 7 (mv t0) 0,
 i 8 (.call (.f F7) [t7]) 1,
 i 9 (.load true 7 t3) 0,
 i 10 (.call (.f O4) [t9]) 7,
 i 11 (.bin .add t8 u2) 15,
 i 12 (.bin .gtr w8 (.c (I 20000))) 31] true)
 (.cond z9
 (.seq (.b6 [i 4 (.mv (.c (.emp 7))) 0,
 i 5 (.mv (.c (I 0))) 1,
 i 6 (.mv (.c (I 27))) 3] false)
 .ret)
 .skip))
 (.seq (.b6 [i 13 (mv t0) 0,
 i 14 (mv t0) 0,
 i 15 (.j1 D1) 2,
 i 16 (mv t0) 0,
 i 17 (.j1 G5) 8,
 i 18 (.slice 7 B0 none (some G4) (some E9)) 31,
 i 19 (.load true 7 t3) 0,
 i 20 (.O2 7 1 z2 [(0,M0)]) 64,
 i 21 (.append 7 112 I4 O1) 255,
 i 22 (mv t0) 0,
 i 23 (.j1 R8) 512,
 i 4 (mv M6) 511,
 i 5 (mv V1) 4095,
 i 6 (.mv (.c (I 0))) 8191] true)
 .ret))⟩
def a2U:n6:=⟨2,27,[.tmp 4],
 .seq (.b6 [i 4 (.mv (.c (.pv (.bool false)))) 0] false)
 (.seq (.seq (.b6 [i 6 (mv t0) 0,
 i 7 (.j1 t6) 1,
 i 8 (mv t1) 0,
 i 9 (.j1 t8) 4,
 i 10 (.bin .neq t7 t9) 15] false)
 (.cond u2
 (.seq (.b6 [i 4 (.mv (.c (.pv (.bool false)))) 0] false)
 .ret)
 .skip))
 (.seq (.seq (.b6 [i 5 (.mv (.c (I 0))) 0] false)
 (.block 0
 (.loop [0,1,5]
 (.seq (.seq (.b6 [i 11 (mv t5) 0,
 i 12 (mv t0) 0,
 i 13 (.j1 z9) 2,
 i 14 (.bin .lss w8 B0) 7] false)
 (.cond D1
 .skip
 (.exit 0)))
 (.seq (.block 1
 (.seq (.b6 [i 17 (mv t0) 0,
 i 18 (mv t5) 0,
 i 19 (.j4 7 E9 I4) 3,
 i 20 (.load true 7 M0) 7,
 i 21 (mv t1) 0,
 i 22 (mv t5) 0,
 i 23 (.j4 7 M6 R8) 48,
 i 24 (.load true 7 V1) 112,
 i 25 (.call (.f G1) [O1,X8]) 255,
 i 26 (.not X6) 511] true)
 (.cond t26
 (.seq (.b6 [i 4 (.mv (.c (.pv (.bool false)))) 0] false)
 .ret)
 .skip)))
 (.b6 [i 15 (mv t5) 0,
 i 16 (.bin .add G4 (.c (I 1))) 1,
 i 5 (mv G5) 3] false))))))
 (.seq (.b6 [i 4 (.mv (.c (.pv (.bool true)))) 0] false)
 .ret)))⟩
def a0h:n6:=⟨1,29,[.tmp 2],
 .seq (.b6 [i 1 (.box 3 t0) 0,
 i 2 (.mv (.c (.emp 7))) 0] false)
 (.seq (.b6 [i 5 (.O2 1 2 [.pv (.str [])] [(0,.c (.pv (.str [97,100,100]))),(1,.c (.pv (.str [112,111,112])))]) 0,
 i 6 (.call (.f u6) [t5]) 1,
 i 3 (mv t6) 3] false)
 (.seq (.seq (.b6 [i 4 (.mv (.c (I 0))) 0] false)
 (.block 0
 (.loop [1,3,4]
 (.seq (.seq (.b6 [i 7 (mv t4) 0,
 i 8 (.b0 t1 0) 0,
 i 9 (.load false 1 t8) 2,
 i 10 (.j1 t9) 6,
 i 11 (.bin .lss t7 u2) 15,
 i 12 (mv w8) 31,
 ig 13 (mv t4) 12 true 63,
 ig 14 (.bin .lss B0 (.c (I 10))) 12 true 127,
 i 15 (.pick z9 D1 (.c (.pv (.bool false)))) 255] false)
 (.cond G4
 .skip
 (.exit 0)))
 (.seq (.block 1
 (.b6 [i 18 (mv t3) 0,
 i 19 (.b0 t1 0) 0,
 i 20 (.load false 1 M0) 2,
 i 21 (mv t4) 0,
 i 22 (.j4 5 O1 M6) 14,
 i 23 (.load true 5 R8) 30,
 i 24 (mv t3) 0,
 i 25 (.call (.f o6) [V1,X8]) 126,
 i 26 (.O2 7 1 z2 [(0,X6)]) 254,
 i 27 (.append 7 112 I4 t26) 511,
 i 3 (mv t27) 1023] false))
 (.b6 [i 16 (mv t4) 0,
 i 17 (.bin .add G5 (.c (I 1))) 1,
 i 4 (mv E9) 3] false))))))
 (.seq (.b6 [i 28 (mv t3) 0,
 i 2 (mv t28) 1] false)
 .ret)))⟩
def a5G:n6:=⟨3,58,[.tmp 6],
 .seq (.b6 [i 4 (.box 7 t1) 0,
 i 5 (.box 7 t2) 0,
 i 6 (.mv (.c (.pv (.bool false)))) 0] false)
 (.seq (.seq (.b6 [i 13 (mv t0) 0,
 i 14 (.load true 7 t4) 0,
 i 15 (.call (.f A6) [B0,D1]) 3,
 i 16 (.not G4) 7,
 i 17 (mv G5) 15,
 ig 18 (mv t0) 17 false 31,
 ig 19 (.load true 7 t5) 17 false 31,
 ig 20 (.call (.f A6) [I4,M0]) 17 false 127,
 ig 21 (.not O1) 17 false 255,
 i 22 (.pick E9 (.c (.pv (.bool true))) M6) 511] false)
 (.cond R8
 (.seq (.b6 [i 6 (.mv (.c (.pv (.bool false)))) 0] false)
 .ret)
 .skip))
 (.seq (.seq (.b6 [i 24 (.load true 7 t4) 0,
 i 25 (.load true 7 t5) 0,
 i 26 (.call (.f W0) [X8,X6]) 3,
 i 23 (mv t26) 7,
 i 27 (.extract V1 0) 15,
 i 28 (.extract V1 1) 15,
 i 7 (mv t27) 31,
 i 8 (mv t28) 127] false)
 (.seq (.b6 [i 29 (mv t8) 0,
 i 30 (.bin .eql t29 (.c (I 0))) 1] false)
 (.cond t30
 (.seq (.b6 [i 31 (mv t7) 0,
 i 32 (.bin .eql t31 (.c (I 0))) 1,
 i 6 (mv t32) 3] false)
 .ret)
 .skip)))
 (.seq (.b6 [i 34 (mv t0) 0,
 i 35 (.load true 7 t4) 0,
 i 36 (.call (.f Y4) [t34,t35]) 3,
 i 33 (mv t36) 7,
 i 37 (.extract t33 0) 15,
 i 38 (.extract t33 1) 15,
 i 9 (mv t37) 31,
 i 10 (mv t38) 127] false)
 (.seq (.b6 [i 40 (mv t0) 0,
 i 41 (.load true 7 t5) 0,
 i 42 (.call (.f Y4) [t40,t41]) 3,
 i 39 (mv t42) 7,
 i 43 (.extract t39 0) 15,
 i 44 (.extract t39 1) 15,
 i 11 (mv t43) 31,
 i 12 (mv t44) 127] false)
 (.seq (.seq (.b6 [i 45 (mv u2) 0,
 i 46 (mv t45) 1,
 ig 47 (mv z9) 46 true 3,
 i 48 (.pick t46 t47 (.c (.pv (.bool false)))) 7] false)
 (.cond t48
 (.seq (.b6 [i 49 (mv t9) 0,
 i 50 (mv w8) 0,
 i 51 (.bin .eql t49 t50) 3,
 i 6 (mv t51) 7] false)
 .ret)
 .skip))
 (.seq (.b6 [i 52 (.b0 t5 1) 0,
 i 53 (.load false 1 t52) 1,
 i 54 (.b0 t4 1) 3,
 iz (.store 1 t54 t53) 7] false)
 (.seq (.b6 [i 55 (.load true 7 t4) 0,
 i 56 (.load true 7 t5) 0,
 i 57 (.eqs false [0,1,0,2,0,0,0] t55 t56) 3,
 i 6 (mv t57) 7] false)
 .ret)))))))⟩
def X4:n6:=⟨2,26,[.tmp 4],
 .seq (.b6 [i 4 (.mv (.c (.pv (.bool false)))) 0] false)
 (.seq (.seq (.b6 [i 6 (mv t0) 0,
 i 7 (.j1 t6) 1,
 i 8 (mv t1) 0,
 i 9 (.j1 t8) 4,
 i 10 (.bin .neq t7 t9) 15] false)
 (.cond u2
 (.seq (.b6 [i 4 (.mv (.c (.pv (.bool false)))) 0] false)
 .ret)
 .skip))
 (.seq (.seq (.b6 [i 11 (mv t0) 0,
 i 12 (.j1 w8) 1,
 i 13 (.mv (.c (I 0))) 0] false)
 (.block 0
 (.loop [0,1,12,13]
 (.seq (.b6 [i 14 (.bin .lss B0 z9) 0] false)
 (.seq (.cond D1
 .skip
 (.exit 0))
 (.seq (.block 1
 (.seq (.b6 [i 15 (mv B0) 0,
 i 5 (mv G4) 1] false)
 (.seq (.b6 [i 16 (mv t0) 0,
 i 17 (mv t5) 0,
 i 18 (.j4 1 G5 E9) 3,
 i 19 (.load false 1 I4) 7,
 i 20 (mv t1) 0,
 i 21 (mv t5) 0,
 i 22 (.j4 1 O1 M6) 48,
 i 23 (.load false 1 R8) 112,
 i 24 (.eqb true M0 V1) 255] true)
 (.cond X8
 (.seq (.b6 [i 4 (.mv (.c (.pv (.bool false)))) 0] false)
 .ret)
 .skip))))
 (.b6 [i 25 (.bin .add B0 (.c (I 1))) 0,
 i 13 (mv X6) 1] false)))))))
 (.seq (.b6 [i 4 (.mv (.c (.pv (.bool true)))) 0] false)
 .ret)))⟩
def a5J:n6:=⟨2,24,[.tmp 4],
 .seq (.b6 [i 2 (.box 1 t0) 0,
 i 4 (.mv (.c (.emp 1))) 0] false)
 (.seq (.b6 [i 9 (.load false 1 t2) 0,
 i 10 (.j1 t9) 1,
 i 11 (.b4w 1 1 [.bool false] u2) 3,
 i 5 (.alloc [.emp 1]) 0,
 iz (.store 1 t5 w8) 15] false)
 (.seq (.b6 [i 6 (.alloc [.pv .nilFunc]) 0] false)
 (.seq (.b6 [i 12 (.mkf (.func U5) [] [t2,t5,t6]) 0,
 iz (.store 1 t6 z9) 1] false)
 (.seq (.seq (.b6 [i 13 (mv t1) 0,
 i 14 (.j1 B0) 1,
 i 15 (.mv (.c (I 0))) 0] false)
 (.block 0
 (.loop [5,6,13,14,15]
 (.seq (.b6 [i 16 (.bin .lss G4 D1) 0] false)
 (.seq (.cond G5
 .skip
 (.exit 0))
 (.seq (.block 1
 (.seq (.b6 [i 17 (.j4 7 B0 G4) 0,
 i 18 (.load true 7 E9) 1,
 i 8 (.alloc z0) 0,
 iz (.store 7 t8 I4) 7] false)
 (.b6 [i 19 (.load false 1 t6) 0,
 i 20 (.load true 7 t8) 0,
 i 21 (.call M0 [O1]) 3] false)))
 (.b6 [i 22 (.bin .add G4 (.c (I 1))) 0,
 i 15 (mv R8) 1] false)))))))
 (.seq (.b6 [i 23 (.load false 1 t5) 0,
 i 4 (mv V1) 1] false)
 .ret)))))⟩
def a4A:n6:=⟨0,85,[.tmp 0],
 .seq (.b6 [i 0 (.mv (.c (.pv (.bool false)))) 0] false)
 (.seq (.b6 [i 8 (.call (.f s9) [.c (.pv (.str [70]))]) 0,
 i 9 (.call (.f V7) [.c (I 10)]) 1,
 i 10 (.call (.f s9) [.c (.pv (.str [70,111,110,116]))]) 3,
 i 11 (.O2 7 3 z0 [(0,t8),(1,t9),(2,u2)]) 7,
 i 12 (.call (.f L6) [w8]) 15,
 i 13 (.call (.f R5) [z9,.c (.pv (.str [100,101,102,105,110,101,114,101,115,111,117,114,99,101]))]) 31,
 i 7 (mv B0) 63,
 i 14 (.extract t7 0) 127,
 i 15 (.extract t7 1) 127,
 i 1 (.alloc z1) 0,
 iz (.store 67 t1 D1) 767,
 i 2 (mv G4) 2047] false)
 (.seq (.b6 [i 17 (.load true 67 t1) 0,
 i 18 (.call (.f s9) [.c (.pv (.str [70]))]) 0,
 i 19 (.call (.f R1) [E9,.c (.pv (.str [70,111,110,116])),I4]) 3,
 i 16 (mv M0) 7,
 i 20 (.extract G5 0) 15,
 i 21 (.extract G5 1) 15,
 i 3 (.alloc z0) 0,
 iz (.store 7 t3 O1) 95,
 i 4 (mv M6) 255] true)
 (.seq (.b6 [i 23 (.load true 67 t1) 0,
 i 24 (.call (.f s9) [.c (.pv (.str [70]))]) 0,
 i 25 (.call (.f R1) [V1,.c (.pv (.str [70,111,114,109])),X8]) 3,
 i 22 (mv X6) 7,
 i 26 (.extract R8 0) 15,
 i 27 (.extract R8 1) 15,
 i 5 (.alloc z0) 0,
 iz (.store 7 t5 t26) 95,
 i 6 (mv t27) 255] true)
 (.seq (.b6 [i 28 (mv t2) 0,
 i 29 (.bin .eql t28 (.c (I 0))) 1,
 i 30 (mv t29) 3,
 ig 31 (.b0 t1 0) 30 true 7,
 ig 32 (.load false 1 t31) 30 true 15,
 ig 33 (.call (.f V7) [.c (I 10)]) 30 true 7,
 ig 34 (.O2 7 1 z0 [(0,t33)]) 30 true 39,
 ig 35 (.call (.f m7) [t32,t34]) 30 true 127,
 i 36 (.pick t30 t35 (.c (.pv (.bool false)))) 255,
 i 37 (mv t36) 511,
 ig 38 (mv t4) 37 true 1023,
 ig 39 (.bin .eql t38 (.c (I 0))) 37 true 2047,
 i 40 (.pick t37 t39 (.c (.pv (.bool false)))) 4095,
 i 41 (mv t40) 8191,
 ig 42 (.load true 7 t3) 41 true 16383,
 ig 43 (.call (.f V7) [.c (I 10)]) 41 true 16383,
 ig 44 (.eqs false [0,1,0,2,0,0,0] t42 t43) 41 true 65535,
 i 45 (.pick t41 t44 (.c (.pv (.bool false)))) 131071,
 i 46 (mv t45) 262143,
 ig 47 (mv t6) 46 true 524287,
 ig 48 (.bin .eql t47 (.c (I 40))) 46 true 1048575,
 i 49 (.pick t46 t48 (.c (.pv (.bool false)))) 2097151,
 i 50 (mv t49) 4194303,
 ig 51 (.load true 67 t1) 50 true 8388607,
 ig 52 (.call (.f s9) [.c (.pv (.str [70]))]) 50 true 8388607,
 ig 53 (.call (.f s9) [.c (.pv (.str [70,111,110,116]))]) 50 true 25165823,
 ig 54 (.O2 7 2 z0 [(0,t52),(1,t53)]) 50 true 58720255,
 ig 55 (.call (.f V8) [t51,t54]) 50 true 134217727,
 ig 56 (.call (.f V7) [.c (I 10)]) 50 true 268435455,
 ig 57 (.O2 7 1 z0 [(0,t56)]) 50 true 536870911,
 ig 58 (.call (.f a3H) [t55,.c (.pv (.str [102,105,110,100,114,101,115,111,117,114,99,101])),t57]) 50 true 1073741823,
 i 59 (.pick t50 t58 (.c (.pv (.bool false)))) 2147483647,
 i 60 (mv t59) 4294967295,
 ig 61 (.load true 67 t1) 60 true 8589934591,
 ig 62 (.call (.f s9) [.c (.pv (.str [70]))]) 60 true 8589934591,
 ig 63 (.call (.f s9) [.c (.pv (.str [70,111,114,109]))]) 60 true 25769803775,
 ig 64 (.O2 7 2 z0 [(0,t62),(1,t63)]) 60 true 60129542143,
 ig 65 (.call (.f V8) [t61,t64]) 60 true 137438953471,
 ig 66 (.call (.f a1T) [.c (.pv (.bool false))]) 60 true 274877906943,
 ig 67 (.O2 7 1 z0 [(0,t66)]) 60 true 549755813887,
 ig 68 (.call (.f a3H) [t65,.c (.pv (.str [114,101,115,111,117,114,99,101,115,116,97,116,117,115])),t67]) 60 true 1099511627775,
 i 69 (.pick t60 t68 (.c (.pv (.bool false)))) 2199023255551,
 i 70 (mv t69) 4398046511103,
 ig 71 (.call (.f s9) [.c (.pv (.str [70]))]) 70 true 8796093022207,
 ig 72 (.call (.f a7B) [.c (I 1)]) 70 true 17592186044415,
 ig 73 (.call (.f s9) [.c (.pv (.str [70,111,110,116]))]) 70 true 35184372088831,
 ig 74 (.O2 7 3 z0 [(0,t71),(1,t72),(2,t73)]) 70 true 70368744177663,
 ig 75 (.call (.f L6) [t74]) 70 true 140737488355327,
 ig 76 (.call (.f Y6) [t75,.c (.pv (.str [100,101,102,105,110,101,114,101,115,111,117,114,99,101])),.c (I 22)]) 70 true 281474976710655,
 i 77 (.pick t70 t76 (.c (.pv (.bool false)))) 562949953421311,
 i 78 (mv t77) 1125899906842623,
 ig 79 (.call (.f s9) [.c (.pv (.str [70]))]) 78 true 2251799813685247,
 ig 80 (.call (.f s9) [.c (.pv (.str [70,111,110,116,115]))]) 78 true 4503599627370495,
 ig 81 (.O2 7 2 z0 [(0,t79),(1,t80)]) 78 true 9007199254740991,
 ig 82 (.call (.f L6) [t81]) 78 true 18014398509481983,
 ig 83 (.call (.f Y6) [t82,.c (.pv (.str [102,105,110,100,114,101,115,111,117,114,99,101])),.c (I 24)]) 78 true 36028797018963967,
 i 84 (.pick t78 t83 (.c (.pv (.bool false)))) 72057594037927935,
 i 0 (mv t84) 144115188075855871] true)
 .ret))))⟩
def a4D:n6:=⟨2,48,[.cell 4 true 67,.tmp 5],
 .seq (.b6 [i 2 (.box 67 t0) 0,
 i 4 (.alloc z1) 0,
 i 5 (.mv (.c (I 0))) 0] false)
 (.seq (.b6 [i 12 (.load true 67 t2) 0,
 i 13 (.build z1 [(0,67,z9)]) 1,
 i 6 (.alloc z1) 0,
 iz (.store 67 t6 B0) 7] false)
 (.seq (.b6 [i 14 (.load true 67 t6) 0,
 i 15 (.mkf (.func D4) [D1] []) 1,
 i 7 (.alloc [.pv .nilFunc]) 0,
 iz (.store 1 t7 G4) 7] false)
 (.seq (.b6 [i 16 (.mkf (.func R0) [] [t7,t2]) 0,
 i 8 (mv G5) 1] false)
 (.seq (.b6 [i 17 (.b1v) 0,
 i 18 (mv t8) 0,
 i 19 (.load true 67 t6) 0,
 i 20 (.mkf (.func B7) [M0] []) 4,
 i 21 (.call I4 [.c (I 3),O1]) 14,
 iz (.insert E9 (.c (.pv (.str [100,101,102,105,110,101,114,101,115,111,117,114,99,101]))) M6) 31,
 i 22 (mv t8) 0,
 i 23 (.load true 67 t6) 0,
 i 24 (.mkf (.func B8) [V1] []) 128,
 i 25 (.call R8 [.c (I 2),X8]) 478,
 iz (.insert E9 (.c (.pv (.str [102,105,110,100,114,101,115,111,117,114,99,101]))) X6) 991,
 i 26 (mv t8) 0,
 i 27 (.load true 67 t6) 0,
 i 28 (.mkf (.func B9) [t27] []) 4096,
 i 29 (.call t26 [.c (I 2),t28]) 15326,
 iz (.insert E9 (.c (.pv (.str [117,110,100,101,102,105,110,101,114,101,115,111,117,114,99,101]))) t29) 31711,
 i 30 (mv t8) 0,
 i 31 (.load true 67 t6) 0,
 i 32 (.mkf (.func C0) [t31] []) 131072,
 i 33 (.call t30 [.c (I 2),t32]) 490462,
 iz (.insert E9 (.c (.pv (.str [114,101,115,111,117,114,99,101,115,116,97,116,117,115]))) t33) 1014751,
 i 34 (mv E9) 2097151,
 i 9 (mv t34) 4194303] true)
 (.seq (.b6 [i 36 (mv t9) 0,
 i 37 (mv t1) 0,
 i 38 (.lookup t36 t37 (.pv .nilFunc)) 3,
 i 35 (mv t38) 7,
 i 39 (.extract t35 0) 15,
 i 40 (.extract t35 1) 15,
 i 10 (mv t39) 31,
 i 11 (mv t40) 127] false)
 (.seq (.seq (.b6 [i 41 (mv w8) 0,
 i 42 (.not t41) 1] false)
 (.cond t42
 (.seq (.b6 [i 43 (.load true 67 t2) 0,
 iz (.store 67 t4 t43) 1,
 i 5 (.mv (.c (I 24))) 3] false)
 .ret)
 .skip))
 (.seq (.b6 [i 44 (mv u2) 0,
 i 45 (.call t44 []) 1,
 i 46 (.extract t45 0) 3,
 i 47 (.extract t45 1) 3,
 iz (.store 67 t4 t46) 15,
 i 5 (mv t47) 31] false)
 .ret)))))))⟩
def V3:n6:=⟨2,52,[.tmp 4],
 .seq (.b6 [i 2 (.box 7 t0) 0,
 i 3 (.box 7 t1) 0,
 i 4 (.mv (.c (.pv (.bool false)))) 0] false)
 (.seq (.b6 [i 5 (.b0 t2 0) 0,
 i 6 (.load false 1 t5) 1,
 i 7 (.b0 t3 0) 0,
 i 8 (.load false 1 t7) 4,
 i 9 (.bin .eql t6 t8) 15,
 i 10 (mv t9) 31,
 ig 11 (.b0 t2 1) 10 true 63,
 ig 12 (.load false 1 w8) 10 true 127,
 ig 13 (.b0 t3 1) 10 true 63,
 ig 14 (.load false 1 B0) 10 true 319,
 ig 15 (.bin .eql z9 D1) 10 true 1023,
 i 16 (.pick u2 G4 (.c (.pv (.bool false)))) 2047,
 i 17 (mv G5) 4095,
 ig 18 (.b0 t2 2) 17 true 8191,
 ig 19 (.load false 1 I4) 17 true 16383,
 ig 20 (.b0 t3 2) 17 true 8191,
 ig 21 (.load false 1 O1) 17 true 40959,
 ig 22 (.call (.f u7) [M0,M6]) 17 true 131071,
 i 23 (.pick E9 R8 (.c (.pv (.bool false)))) 262143,
 i 24 (mv V1) 524287,
 ig 25 (.b0 t2 3) 24 true 1048575,
 ig 26 (.load false 1 X6) 24 true 2097151,
 ig 27 (.b0 t3 3) 24 true 1048575,
 ig 28 (.load false 1 t27) 24 true 5242879,
 ig 29 (.call (.f u7) [t26,t28]) 24 true 16777215,
 i 30 (.pick X8 t29 (.c (.pv (.bool false)))) 33554431,
 i 31 (mv t30) 67108863,
 ig 32 (.b0 t2 4) 31 true 134217727,
 ig 33 (.load false 1 t32) 31 true 268435455,
 ig 34 (.b0 t3 4) 31 true 134217727,
 ig 35 (.load false 1 t34) 31 true 671088639,
 ig 36 (.call (.f u7) [t33,t35]) 31 true 2147483647,
 i 37 (.pick t31 t36 (.c (.pv (.bool false)))) 4294967295,
 i 38 (mv t37) 8589934591,
 ig 39 (.b0 t2 5) 38 true 17179869183,
 ig 40 (.load false 1 t39) 38 true 34359738367,
 ig 41 (.b0 t3 5) 38 true 17179869183,
 ig 42 (.load false 1 t41) 38 true 85899345919,
 ig 43 (.bin .eql t40 t42) 38 true 274877906943,
 i 44 (.pick t38 t43 (.c (.pv (.bool false)))) 549755813887,
 i 45 (mv t44) 1099511627775,
 ig 46 (.b0 t2 6) 45 true 2199023255551,
 ig 47 (.load false 1 t46) 45 true 4398046511103,
 ig 48 (.b0 t3 6) 45 true 2199023255551,
 ig 49 (.load false 1 t48) 45 true 10995116277759,
 ig 50 (.bin .eql t47 t49) 45 true 35184372088831,
 i 51 (.pick t45 t50 (.c (.pv (.bool false)))) 70368744177663,
 i 4 (mv t51) 140737488355327] false)
 .ret)⟩
def z6:n6:=⟨2,139,[.cell 4 true 7],
 .seq (.b6 [i 2 (.box 5 t0) 0,
 i 4 (.alloc z2) 0] false)
 (.seq (.b6 [i 12 (.b0 t2 4) 0,
 i 13 (.load false 1 z9) 1,
 i 14 (.b0 t2 4) 0,
 i 15 (.load false 1 D1) 4,
 i 16 (.J0 G4) 12,
 i 17 (.mm false [G5,.c (I 40)]) 28,
 i 18 (.a2A B0 none (some E9)) 63,
 i 5 (mv I4) 127] false)
 (.seq (.seq (.b6 [i 19 (.b0 t2 0) 0,
 i 20 (.load false 1 M0) 1,
 i 21 (.bin .rem O1 (.c (.pv (.int .u8 (5))))) 3] false)
 (.block 0
 (.seq (.seq (.b6 [i 23 (.bin .eql M6 (.c (.pv (.int .u8 (0))))) 0,
 i 22 (mv V1) 1] false)
 (.cond R8
 .skip
 (.b6 [i 24 (.bin .eql M6 (.c (.pv (.int .u8 (1))))) 0,
 i 22 (mv X8) 1] false)))
 (.cond R8
 (.seq (.b6 [i 25 (mv t5) 0,
 i 26 (.build z2 [(0,1,.c (I 1)),(1,1,X6)]) 1,
 iz (.store 7 t4 t26) 3] false)
 .ret)
 (.seq (.b6 [i 28 (.bin .eql M6 (.c (.pv (.int .u8 (2))))) 0,
 i 27 (mv t28) 1] false)
 (.cond t27
 (.seq (.b6 [i 29 (.build z2 [(0,1,.c (I 2))]) 0,
 i 6 (.alloc z2) 0,
 iz (.store 7 t6 t29) 3] false)
 (.seq (.seq (.b6 [i 7 (.mv (.c (I 0))) 0] false)
 (.block 1
 (.loop [1,2,4,6,7]
 (.seq (.seq (.b6 [i 30 (mv t7) 0,
 i 31 (.b0 t2 1) 0,
 i 32 (.load false 1 t31) 2,
 i 33 (.bin .rem t32 (.c (.pv (.int .u8 (6))))) 6,
 i 34 (.conv .i64 t33) 14,
 i 35 (.bin .lss t30 t34) 31] false)
 (.cond t35
 .skip
 (.exit 1)))
 (.seq (.block 2
 (.seq (.b6 [i 38 (.b0 t2 2) 0,
 i 39 (.load false 1 t38) 1,
 i 40 (mv t7) 0,
 i 41 (.bin .mul (.c (I 5)) t40) 4,
 i 42 (.conv .u8 t41) 12,
 i 43 (.bin .add t39 t42) 31,
 i 44 (.b0 t2 1) 0,
 i 45 (.load false 1 t44) 64,
 i 46 (mv t7) 0,
 i 47 (.conv .u8 t46) 256,
 i 48 (.bin .add t45 t47) 960,
 i 49 (.b0 t2 2) 0,
 i 50 (.load false 1 t49) 2048,
 i 51 (mv t7) 0,
 i 52 (.bin .add t51 (.c (I 1))) 8192,
 i 53 (.conv .u8 t52) 24576,
 i 54 (.bin .mul t50 t53) 63488,
 i 55 (.b0 t2 3) 0,
 i 56 (.load false 1 t55) 131072,
 i 57 (mv t7) 0,
 i 58 (.bin .add t57 (.c (I 1))) 524288,
 i 59 (.conv .i32 t58) 1572864,
 i 60 (.bin .quo t56 t59) 4063232,
 i 61 (.build [.pv (.int .u8 (0)),.pv (.int .u8 (0)),.pv (.int .u8 (0)),.pv (.int .i32 (0)),.pv (.str [])] [(0,1,t43),(1,1,t48),(2,1,t54),(3,1,t60)]) 8388607,
 i 8 (.alloc [.pv (.int .u8 (0)),.pv (.int .u8 (0)),.pv (.int .u8 (0)),.pv (.int .i32 (0)),.pv (.str [])]) 0,
 iz (.store 5 t8 t61) 33554431] true)
 (.b6 [i 62 (.b0 t6 2) 0,
 i 63 (.load false 1 t62) 1,
 i 64 (.load true 5 t8) 0,
 i 65 (mv t1) 0,
 i 66 (.call (.f e9) [t64,t65]) 12,
 i 67 (.O2 7 1 z0 [(0,t66)]) 28,
 i 68 (.append 7 64 t63 t67) 63,
 i 69 (.b0 t6 2) 127,
 iz (.store 1 t69 t68) 255] true)))
 (.b6 [i 36 (mv t7) 0,
 i 37 (.bin .add t36 (.c (I 1))) 1,
 i 7 (mv t37) 3] false))))))
 (.seq (.b6 [i 70 (.load true 7 t6) 0,
 iz (.store 7 t4 t70) 1] false)
 .ret)))
 (.seq (.b6 [i 72 (.bin .eql M6 (.c (.pv (.int .u8 (3))))) 0,
 i 71 (mv t72) 1] false)
 (.cond t71
 (.seq (.b6 [i 73 (.b0 t2 1) 0,
 i 74 (.load false 1 t73) 1,
 i 75 (.bin .rem t74 (.c (.pv (.int .u8 (6))))) 3,
 i 76 (.conv .i64 t75) 7,
 i 77 (.call (.f m8) [t76]) 15,
 i 9 (.alloc z2) 0,
 iz (.store 7 t9 t77) 63] false)
 (.seq (.seq (.b6 [i 10 (.mv (.c (I 0))) 0] false)
 (.block 3
 (.loop [1,2,4,9,10]
 (.seq (.seq (.b6 [i 78 (mv u2) 0,
 i 79 (.b0 t2 2) 0,
 i 80 (.load false 1 t79) 2,
 i 81 (.bin .rem t80 (.c (.pv (.int .u8 (4))))) 6,
 i 82 (.conv .i64 t81) 14,
 i 83 (.bin .lss t78 t82) 31,
 i 84 (mv t83) 63,
 ig 85 (mv u2) 84 true 127,
 ig 86 (.b0 t9 5) 84 true 127,
 ig 87 (.load false 1 t86) 84 true 383,
 ig 88 (.bin .lss t85 t87) 84 true 1023,
 i 89 (.pick t84 t88 (.c (.pv (.bool false)))) 2047] false)
 (.cond t89
 .skip
 (.exit 3)))
 (.seq (.block 4
 (.seq (.b6 [i 92 (.b0 t2 2) 0,
 i 93 (.load false 1 t92) 1,
 i 94 (mv u2) 0,
 i 95 (.bin .mul (.c (I 3)) t94) 4,
 i 96 (.conv .u8 t95) 12,
 i 97 (.bin .add t93 t96) 31,
 i 98 (.b0 t2 1) 0,
 i 99 (.load false 1 t98) 64,
 i 100 (mv u2) 0,
 i 101 (.conv .u8 b8d) 256,
 i 102 (.bin .add t99 b8e) 960,
 i 103 (.b0 t2 2) 0,
 i 104 (.load false 1 b8g) 2048,
 i 105 (.b0 t2 3) 0,
 i 106 (.load false 1 b9e) 8192,
 i 107 (.build [.pv (.int .u8 (0)),.pv (.int .u8 (0)),.pv (.int .u8 (0)),.pv (.int .i32 (0)),.pv (.str [])] [(0,1,t97),(1,1,b8f),(2,1,b9d),(3,1,b9f)]) 32767,
 i 11 (.alloc [.pv (.int .u8 (0)),.pv (.int .u8 (0)),.pv (.int .u8 (0)),.pv (.int .i32 (0)),.pv (.str [])]) 0,
 iz (.store 5 w8 b9g) 131071] false)
 (.seq (.b6 [i 108 (.b0 t9 3) 0,
 i 109 (.load false 1 b9h) 1,
 i 110 (mv u2) 0,
 i 111 (.a8r 8 1 (.g 0) b9j) 4,
 i 112 (.load false 1 b9k) 12,
 i 113 (.call (.f y2) [c1w]) 28,
 i 114 (.O2 7 1 z0 [(0,c1x)]) 60,
 i 115 (.append 7 64 b9i c1y) 127,
 i 116 (.b0 t9 3) 255,
 iz (.store 1 c1A c1z) 511] true)
 (.b6 [i 117 (.b0 t9 4) 0,
 i 118 (.load false 1 c1B) 1,
 i 119 (.load true 5 w8) 0,
 i 120 (mv t1) 0,
 i 121 (.call (.f e9) [c1D,c1E]) 12,
 i 122 (.O2 7 1 z0 [(0,b9l)]) 28,
 i 123 (.append 7 64 c1C c1F) 63,
 i 124 (.b0 t9 4) 127,
 iz (.store 1 c1H c1G) 255] true))))
 (.b6 [i 90 (mv u2) 0,
 i 91 (.bin .add t90 (.c (I 1))) 1,
 i 10 (mv t91) 3] false))))))
 (.seq (.b6 [i 125 (.load true 7 t9) 0,
 iz (.store 7 t4 c1I) 1] false)
 .ret)))
 .skip))))))))
 (.seq (.b6 [i 126 (mv t5) 0,
 i 127 (.b0 t2 1) 0,
 i 128 (.load false 1 b9m) 2,
 i 129 (.conv .i64 c1K) 6,
 i 130 (mv t5) 0,
 i 131 (.J0 c1M) 16,
 i 132 (.bin .add c1N (.c (I 1))) 48,
 i 133 (.bin .rem c1L c1O) 126,
 i 134 (.b0 t2 2) 0,
 i 135 (.load false 1 c1Q) 256,
 i 136 (.bin .rem c1R (.c (.pv (.int .u8 (2))))) 768,
 i 137 (.conv .i64 c1S) 1792,
 i 138 (.build z2 [(0,1,.c (I 4)),(1,1,c1J),(6,1,c1P),(5,1,c1T)]) 4095,
 iz (.store 7 t4 c1U) 8191] true)
 .ret)))⟩
def Z4:n6:=⟨4,47,[.tmp 8,.tmp 9],
 .seq (.b6 [i 5 (.box 7 t1) 0,
 i 8 (.mv (.c (.emp 7))) 0,
 i 9 (.mv (.c (I 0))) 2] false)
 (.seq (.b6 [i 14 (mv t0) 0,
 i 15 (.load true 7 t5) 0,
 i 16 (.O2 1 1 [I 0] [(0,.c (I 6))]) 0,
 i 17 (.call (.f A2) [D1,G4,G5]) 7,
 i 13 (mv E9) 15,
 i 18 (.extract B0 0) 31,
 i 19 (.extract B0 1) 31,
 i 10 (.alloc [.emp 7,I 0,.pv (.bool false),I 0,.pv (.str []),I 0,I 0,I 0]) 0,
 iz (.store 8 u2 I4) 191,
 i 11 (mv M0) 511] false)
 (.seq (.seq (.b6 [i 20 (mv w8) 0,
 i 21 (.bin .eql O1 (.c (I 0))) 1] false)
 (.cond M6
 (.b6 [i 22 (.load true 8 u2) 0,
 i 23 (mv t2) 0,
 i 24 (mv t3) 0,
 i 25 (.J0 X8) 4,
 i 26 (.call (.f N7) [R8,V1,X6]) 15,
 i 11 (mv t26) 31] false)
 .skip))
 (.seq (.seq (.b6 [i 27 (mv w8) 0,
 i 28 (.bin .neq t27 (.c (I 0))) 1] false)
 (.cond t28
 (.seq (.b6 [i 29 (mv w8) 0,
 i 8 (.mv (.c (.emp 7))) 0,
 i 9 (mv t29) 3] false)
 .ret)
 .skip))
 (.seq (.b6 [i 30 (.load true 8 u2) 0,
 i 31 (.call (.f o9) [t30]) 1,
 i 12 (.alloc z2) 0,
 iz (.store 7 z9 t31) 7] false)
 (.seq (.b6 [i 32 (.b0 z9 1) 0,
 i 33 (.load false 1 t32) 1,
 i 34 (.s2b t33) 3,
 i 35 (.b0 t5 5) 0,
 i 36 (.load false 1 t35) 8,
 i 37 (mv t2) 0,
 i 38 (.bin .add t36 t37) 56,
 i 39 (mv t3) 0,
 i 40 (.s2b t39) 128,
 i 41 (.call (.f D8) [t34,t38,t40]) 511,
 i 42 (.b2s t41) 1023,
 i 43 (.b0 z9 1) 2047,
 iz (.store 1 t43 t42) 4095] false)
 (.seq (.b6 [i 44 (.load true 8 u2) 0,
 i 45 (.load true 7 z9) 0,
 i 46 (.call (.f y1) [t44,t45]) 3,
 i 8 (mv t46) 7,
 i 9 (.mv (.c (I 0))) 15] false)
 .ret))))))⟩
def a2N:n6:=⟨2,29,[.tmp 4,.tmp 5],
 .seq (.b6 [i 3 (.box 7 t1) 0,
 i 4 (.mv (.c (.pv (.str [])))) 0,
 i 5 (.mv (.c (I 0))) 2] false)
 (.seq (.b6 [i 9 (mv t0) 0,
 i 10 (.load true 7 t3) 0,
 i 11 (.O2 1 1 [I 0] [(0,.c (I 6))]) 0,
 i 12 (.call (.f A2) [t9,u2,w8]) 7,
 i 8 (mv z9) 15,
 i 13 (.extract t8 0) 31,
 i 14 (.extract t8 1) 31,
 i 6 (.alloc [.emp 7,I 0,.pv (.bool false),I 0,.pv (.str []),I 0,I 0,I 0]) 0,
 iz (.store 8 t6 B0) 191,
 i 7 (mv D1) 511] false)
 (.seq (.seq (.b6 [i 15 (mv t7) 0,
 i 16 (.bin .neq G4 (.c (I 0))) 1] false)
 (.cond G5
 (.seq (.b6 [i 17 (mv t7) 0,
 i 4 (.mv (.c (.pv (.str [])))) 0,
 i 5 (mv E9) 3] false)
 .ret)
 .skip))
 (.seq (.b6 [i 18 (.load true 8 t6) 0,
 i 19 (.call (.f o9) [I4]) 1,
 i 20 (.field false 1 1 M0) 3,
 i 21 (.b0 t3 5) 0,
 i 22 (.load false 1 M6) 8,
 i 23 (.b0 t3 5) 0,
 i 24 (.load false 1 V1) 32,
 i 25 (.b0 t3 6) 0,
 i 26 (.load false 1 X6) 128,
 i 27 (.bin .add X8 t26) 480,
 i 28 (.a2A O1 (some R8) (some t27)) 1023,
 i 4 (mv t28) 2047,
 i 5 (.mv (.c (I 0))) 4095] true)
 .ret)))⟩
def a5H:n6:=⟨2,34,[.tmp 4,.tmp 5],
 .seq (.b6 [i 3 (.box 7 t1) 0,
 i 4 (.mv (.c (.emp 7))) 0,
 i 5 (.mv (.c (I 0))) 2] false)
 (.seq (.b6 [i 9 (mv t0) 0,
 i 10 (.load true 7 t3) 0,
 i 11 (.O2 1 2 [I 0] [(0,.c (I 7)),(1,.c (I 8))]) 0,
 i 12 (.call (.f A2) [t9,u2,w8]) 7,
 i 8 (mv z9) 15,
 i 13 (.extract t8 0) 31,
 i 14 (.extract t8 1) 31,
 i 6 (.alloc [.emp 7,I 0,.pv (.bool false),I 0,.pv (.str []),I 0,I 0,I 0]) 0,
 iz (.store 8 t6 B0) 191,
 i 7 (mv D1) 511] false)
 (.seq (.seq (.b6 [i 15 (mv t7) 0,
 i 16 (.bin .neq G4 (.c (I 0))) 1] false)
 (.cond G5
 (.seq (.b6 [i 17 (mv t7) 0,
 i 4 (.mv (.c (.emp 7))) 0,
 i 5 (mv E9) 3] false)
 .ret)
 .skip))
 (.seq (.b6 [i 18 (.load true 8 t6) 0,
 i 19 (.call (.f o9) [I4]) 1,
 i 20 (.field false 2 1 M0) 3,
 i 21 (.b0 t3 5) 0,
 i 22 (.load false 1 M6) 8,
 i 23 (.b0 t3 5) 0,
 i 24 (.load false 1 V1) 32,
 i 25 (.b0 t3 6) 0,
 i 26 (.load false 1 X6) 128,
 i 27 (.bin .add X8 t26) 480,
 i 28 (.b0 t3 5) 0,
 i 29 (.load false 1 t28) 1024,
 i 30 (.b0 t3 6) 0,
 i 31 (.load false 1 t30) 4096,
 i 32 (.bin .add t29 t31) 15360,
 i 33 (.slice 7 O1 (some R8) (some t27) (some t32)) 32767,
 i 4 (mv t33) 65535,
 i 5 (.mv (.c (I 0))) 131071] true)
 .ret)))⟩
def a5I:n6:=⟨2,34,[.cell 4 true 7,.tmp 5],
 .seq (.b6 [i 3 (.box 7 t1) 0,
 i 4 (.alloc z0) 0,
 i 5 (.mv (.c (I 0))) 0] false)
 (.seq (.seq (.b6 [i 8 (mv t0) 0,
 i 9 (.load true 7 t3) 0,
 i 10 (.call (.f A6) [t8,t9]) 3,
 i 11 (.not u2) 7] false)
 (.cond w8
 (.seq (.b6 [i 12 (.build z0 []) 0,
 iz (.store 7 t4 z9) 1,
 i 5 (.mv (.c (I 2))) 3] false)
 .ret)
 .skip))
 (.seq (.seq (.b6 [i 13 (.b0 t3 0) 0,
 i 14 (.load false 1 B0) 1,
 i 15 (.bin .neq D1 (.c (I 6))) 3] false)
 (.cond G4
 (.seq (.b6 [i 16 (.load true 7 t3) 0,
 i 17 (.call (.f P9) [G5]) 1,
 i 18 (.extract E9 0) 3,
 i 19 (.extract E9 1) 3,
 iz (.store 7 t4 I4) 15,
 i 5 (mv M0) 31] false)
 .ret)
 .skip))
 (.seq (.b6 [i 21 (mv t0) 0,
 i 22 (.load true 7 t3) 0,
 i 23 (.call (.f P7) [M6,R8]) 3,
 i 20 (mv V1) 7,
 i 24 (.extract O1 0) 15,
 i 25 (.extract O1 1) 15,
 i 6 (mv X8) 31,
 i 7 (mv X6) 127] false)
 (.seq (.seq (.b6 [i 26 (mv t6) 0,
 i 27 (.J0 t26) 1,
 i 28 (.bin .gtr t27 (.c (I 100))) 3] false)
 (.cond t28
 (.seq (.b6 [i 29 (.build z0 []) 0,
 iz (.store 7 t4 t29) 1,
 i 5 (.mv (.c (I 23))) 3] false)
 .ret)
 .skip))
 (.seq (.b6 [i 30 (mv t6) 0,
 i 31 (.call (.f Y9) [t30,.c (.pv (.bool false))]) 1,
 i 32 (.extract t31 0) 3,
 i 33 (.extract t31 1) 3,
 iz (.store 7 t4 t32) 15,
 i 5 (mv t33) 31] false)
 .ret)))))⟩
def a3Y:n6:=⟨3,45,[.cell 6 true 7,.tmp 7,.tmp 8],
 .seq (.b6 [i 4 (.box 7 t1) 0,
 i 5 (.box 7 t2) 0,
 i 6 (.alloc z0) 0,
 i 7 (.mv (.c (.pv (.bool false)))) 0,
 i 8 (.mv (.c (I 0))) 8] false)
 (.seq (.b6 [i 14 (mv t0) 0,
 i 15 (.load true 7 t4) 0,
 i 16 (.O2 1 1 [I 0] [(0,.c (I 9))]) 0,
 i 17 (.call (.f A2) [D1,G4,G5]) 7,
 i 13 (mv E9) 15,
 i 18 (.extract B0 0) 31,
 i 19 (.extract B0 1) 31,
 i 9 (.alloc [.emp 7,I 0,.pv (.bool false),I 0,.pv (.str []),I 0,I 0,I 0]) 0,
 iz (.store 8 t9 I4) 191,
 i 10 (mv M0) 511] false)
 (.seq (.seq (.b6 [i 20 (mv u2) 0,
 i 21 (.bin .neq O1 (.c (I 0))) 1] false)
 (.cond M6
 (.seq (.b6 [i 22 (.build z0 []) 0,
 i 23 (mv u2) 0,
 iz (.store 7 t6 R8) 1,
 i 7 (.mv (.c (.pv (.bool false)))) 5,
 i 8 (mv V1) 15] false)
 .ret)
 .skip))
 (.seq (.b6 [i 24 (.load true 8 t9) 0,
 i 25 (.call (.f o9) [X8]) 1,
 i 11 (.alloc z2) 0,
 iz (.store 7 w8 X6) 7] false)
 (.seq (.b6 [i 26 (.b0 w8 3) 0,
 i 27 (.load false 1 t26) 1,
 i 28 (.load true 7 t5) 0,
 i 29 (.call (.f u1) [t27,t28]) 7,
 i 12 (mv t29) 15] false)
 (.seq (.seq (.b6 [i 30 (mv z9) 0,
 i 31 (.bin .lss t30 (.c (I 0))) 1,
 i 32 (mv t31) 3,
 ig 33 (mv z9) 32 false 7,
 ig 34 (.b0 w8 4) 32 false 7,
 ig 35 (.load false 1 t34) 32 false 23,
 ig 36 (.j1 t35) 32 false 55,
 ig 37 (.bin .geq t33 t36) 32 false 127,
 i 38 (.pick t32 (.c (.pv (.bool true))) t37) 255] false)
 (.cond t38
 (.seq (.b6 [i 39 (.build z0 []) 0,
 iz (.store 7 t6 t39) 1,
 i 7 (.mv (.c (.pv (.bool false)))) 3,
 i 8 (.mv (.c (I 0))) 7] false)
 .ret)
 .skip))
 (.seq (.b6 [i 40 (.b0 w8 4) 0,
 i 41 (.load false 1 t40) 1,
 i 42 (mv z9) 0,
 i 43 (.j4 7 t41 t42) 7,
 i 44 (.load true 7 t43) 15,
 iz (.store 7 t6 t44) 31,
 i 7 (.mv (.c (.pv (.bool true)))) 63,
 i 8 (.mv (.c (I 0))) 127] false)
 .ret))))))⟩
def a2O:n6:=⟨4,84,[.tmp 8,.tmp 9],
 .seq (.b6 [i 5 (.box 7 t1) 0,
 i 6 (.box 7 t2) 0,
 i 7 (.box 7 t3) 0,
 i 8 (.mv (.c (.emp 7))) 0,
 i 9 (.mv (.c (I 0))) 8] false)
 (.seq (.b6 [i 15 (mv t0) 0,
 i 16 (.load true 7 t5) 0,
 i 17 (.O2 1 1 [I 0] [(0,.c (I 9))]) 0,
 i 18 (.call (.f A2) [G4,G5,E9]) 7,
 i 14 (mv I4) 15,
 i 19 (.extract D1 0) 31,
 i 20 (.extract D1 1) 31,
 i 10 (.alloc [.emp 7,I 0,.pv (.bool false),I 0,.pv (.str []),I 0,I 0,I 0]) 0,
 iz (.store 8 u2 M0) 191,
 i 11 (mv O1) 511] false)
 (.seq (.seq (.b6 [i 21 (mv w8) 0,
 i 22 (.bin .neq M6 (.c (I 0))) 1] false)
 (.cond R8
 (.seq (.b6 [i 23 (mv w8) 0,
 i 8 (.mv (.c (.emp 7))) 0,
 i 9 (mv V1) 3] false)
 .ret)
 .skip))
 (.seq (.b6 [i 24 (.load true 8 u2) 0,
 i 25 (.call (.f o9) [X8]) 1,
 i 12 (.alloc z2) 0,
 iz (.store 7 z9 X6) 7] false)
 (.seq (.seq (.b6 [i 26 (.b0 z9 3) 0,
 i 27 (.load false 1 t26) 1,
 i 28 (.load true 7 t6) 0,
 i 29 (.call (.f u1) [t27,t28]) 7,
 i 13 (mv t29) 15] false)
 (.seq (.b6 [i 30 (mv B0) 0,
 i 31 (.bin .geq t30 (.c (I 0))) 1,
 i 32 (mv t31) 3,
 ig 33 (mv B0) 32 true 7,
 ig 34 (.b0 z9 4) 32 true 7,
 ig 35 (.load false 1 t34) 32 true 23,
 ig 36 (.j1 t35) 32 true 55,
 ig 37 (.bin .lss t33 t36) 32 true 127,
 i 38 (.pick t32 t37 (.c (.pv (.bool false)))) 255] false)
 (.cond t38
 (.seq (.b6 [i 39 (.b0 z9 4) 0,
 i 40 (.load false 1 t39) 1,
 i 41 (mv B0) 0,
 i 42 (.load true 7 t7) 0,
 i 43 (.O2 7 1 z0 [(0,t42)]) 8,
 i 44 (.call (.f F1) [t40,t41,t43]) 31,
 i 45 (.b0 z9 4) 63,
 iz (.store 1 t45 t44) 127] false)
 (.seq (.b6 [i 46 (.load true 8 u2) 0,
 i 47 (.load true 7 z9) 0,
 i 48 (.call (.f y1) [t46,t47]) 3,
 i 8 (mv t48) 7,
 i 9 (.mv (.c (I 0))) 15] false)
 .ret))
 .skip)))
 (.seq (.seq (.b6 [i 49 (.b0 z9 3) 0,
 i 50 (.load false 1 t49) 1,
 i 51 (.j1 t50) 3,
 i 52 (.b0 z9 5) 0,
 i 53 (.load false 1 t52) 8,
 i 54 (.bin .geq t51 t53) 31] false)
 (.cond t54
 (.seq (.b6 [i 8 (.mv (.c (.emp 7))) 0,
 i 9 (.mv (.c (I 30))) 1] false)
 .ret)
 .skip))
 (.seq (.b6 [i 55 (.b0 z9 3) 0,
 i 56 (.load false 1 t55) 1,
 i 57 (.b0 z9 3) 0,
 i 58 (.load false 1 t57) 4,
 i 59 (.j1 t58) 12,
 i 60 (.b0 z9 3) 0,
 i 61 (.load false 1 t60) 32,
 i 62 (.j1 t61) 96,
 i 63 (.slice 7 t56 none (some t59) (some t62)) 255,
 i 64 (.load true 7 t6) 0,
 i 65 (.O2 7 1 z0 [(0,t64)]) 512,
 i 66 (.append 7 64 t63 t65) 2047,
 i 67 (.b0 z9 3) 4095,
 iz (.store 1 t67 t66) 8191] true)
 (.seq (.b6 [i 68 (.b0 z9 4) 0,
 i 69 (.load false 1 t68) 1,
 i 70 (.b0 z9 4) 0,
 i 71 (.load false 1 t70) 4,
 i 72 (.j1 t71) 12,
 i 73 (.b0 z9 4) 0,
 i 74 (.load false 1 t73) 32,
 i 75 (.j1 t74) 96,
 i 76 (.slice 7 t69 none (some t72) (some t75)) 255,
 i 77 (.load true 7 t7) 0,
 i 78 (.O2 7 1 z0 [(0,t77)]) 512,
 i 79 (.append 7 64 t76 t78) 2047,
 i 80 (.b0 z9 4) 4095,
 iz (.store 1 t80 t79) 8191] true)
 (.seq (.b6 [i 81 (.load true 8 u2) 0,
 i 82 (.load true 7 z9) 0,
 i 83 (.call (.f y1) [t81,t82]) 3,
 i 8 (mv t83) 7,
 i 9 (.mv (.c (I 0))) 15] false)
 .ret))))))))⟩
def a4v:n6:=⟨3,57,[.tmp 6,.tmp 7],
 .seq (.b6 [i 4 (.box 7 t1) 0,
 i 5 (.box 7 t2) 0,
 i 6 (.mv (.c (.emp 7))) 0,
 i 7 (.mv (.c (I 0))) 4] false)
 (.seq (.b6 [i 13 (mv t0) 0,
 i 14 (.load true 7 t4) 0,
 i 15 (.O2 1 1 [I 0] [(0,.c (I 9))]) 0,
 i 16 (.call (.f A2) [B0,D1,G4]) 7,
 i 12 (mv G5) 15,
 i 17 (.extract z9 0) 31,
 i 18 (.extract z9 1) 31,
 i 8 (.alloc [.emp 7,I 0,.pv (.bool false),I 0,.pv (.str []),I 0,I 0,I 0]) 0,
 iz (.store 8 t8 E9) 191,
 i 9 (mv I4) 511] false)
 (.seq (.seq (.b6 [i 19 (mv t9) 0,
 i 20 (.bin .neq M0 (.c (I 0))) 1] false)
 (.cond O1
 (.seq (.b6 [i 21 (mv t9) 0,
 i 6 (.mv (.c (.emp 7))) 0,
 i 7 (mv M6) 3] false)
 .ret)
 .skip))
 (.seq (.b6 [i 22 (.load true 8 t8) 0,
 i 23 (.call (.f o9) [R8]) 1,
 i 10 (.alloc z2) 0,
 iz (.store 7 u2 V1) 7] false)
 (.seq (.b6 [i 24 (.b0 u2 3) 0,
 i 25 (.load false 1 X8) 1,
 i 26 (.load true 7 t5) 0,
 i 27 (.call (.f u1) [X6,t26]) 7,
 i 11 (mv t27) 15] false)
 (.seq (.seq (.b6 [i 28 (mv w8) 0,
 i 29 (.bin .lss t28 (.c (I 0))) 1,
 i 30 (mv t29) 3,
 ig 31 (mv w8) 30 false 7,
 ig 32 (.b0 u2 4) 30 false 7,
 ig 33 (.load false 1 t32) 30 false 23,
 ig 34 (.j1 t33) 30 false 55,
 ig 35 (.bin .geq t31 t34) 30 false 127,
 i 36 (.pick t30 (.c (.pv (.bool true))) t35) 255] false)
 (.cond t36
 (.seq (.b6 [i 37 (mv t0) 0,
 i 6 (mv t37) 1,
 i 7 (.mv (.c (I 0))) 3] false)
 .ret)
 .skip))
 (.seq (.b6 [i 38 (.b0 u2 3) 0,
 i 39 (.load false 1 t38) 1,
 i 40 (.call (.f k7) [t39]) 3,
 i 41 (mv w8) 0,
 i 42 (mv w8) 0,
 i 43 (.bin .add t42 (.c (I 1))) 16,
 i 44 (.call (.f F4) [t40,t41,t43]) 63,
 i 45 (.b0 u2 4) 0,
 i 46 (.load false 1 t45) 128,
 i 47 (.call (.f k7) [t46]) 511,
 i 48 (mv w8) 0,
 i 49 (mv w8) 0,
 i 50 (.bin .add t49 (.c (I 1))) 2048,
 i 51 (.call (.f F4) [t47,t48,t50]) 8191,
 i 52 (.b0 u2 3) 511,
 iz (.store 1 t52 t44) 32767,
 i 53 (.b0 u2 4) 65535,
 iz (.store 1 t53 t51) 131071] true)
 (.seq (.b6 [i 54 (.load true 8 t8) 0,
 i 55 (.load true 7 u2) 0,
 i 56 (.call (.f y1) [t54,t55]) 3,
 i 6 (mv t56) 7,
 i 7 (.mv (.c (I 0))) 15] false)
 .ret)))))))⟩
def a7Y:n6:=⟨2,42,[.cell 4 true 67,.tmp 5],
 .seq (.b6 [i 2 (.box 67 t0) 0,
 i 4 (.alloc z1) 0,
 i 5 (.mv (.c (.pv (.bool false)))) 0] false)
 (.seq (.seq (.b6 [i 10 (mv t1) 0,
 i 11 (.call (.f a4m) [u2]) 1,
 i 12 (.j1 w8) 3,
 i 13 (.mv (.c (I 0))) 0] false)
 (.block 0
 (.loop [2,4,11,12,13]
 (.seq (.b6 [i 14 (.bin .lss B0 z9) 0] false)
 (.seq (.cond D1
 .skip
 (.exit 0))
 (.seq (.block 1
 (.seq (.b6 [i 15 (.j4 6 w8 B0) 0,
 i 16 (.load true 6 G4) 1,
 i 7 (.alloc [.pv (.int .u8 (0)),.pv (.int .u8 (0)),.pv (.int .u8 (0)),.pv (.int .u8 (0)),.pv (.int .i32 (0)),.pv (.str [])]) 0,
 iz (.store 6 t7 G5) 7] false)
 (.seq (.seq (.b6 [i 17 (.load true 6 t7) 0,
 i 18 (.call (.f q0) [E9]) 1,
 i 19 (.bin .eql I4 (.c (.pv (.str [])))) 3] false)
 (.cond M0
 (.seq (.b6 [i 20 (.load true 6 t7) 0,
 i 21 (.load true 67 t2) 0,
 i 22 (.call (.f i7) [O1,M6]) 3,
 iz (.store 67 t2 R8) 7] false)
 (.exit 1))
 .skip))
 (.seq (.b6 [i 24 (.load true 67 t2) 0,
 i 25 (.load true 6 t7) 0,
 i 26 (.call (.f q0) [X6]) 2,
 i 27 (.call (.f C7) [X8,t26]) 7,
 i 23 (mv t27) 15,
 i 28 (.extract V1 0) 31,
 i 29 (.extract V1 1) 31,
 i 8 (.alloc z1) 0,
 iz (.store 67 t8 t28) 191,
 i 9 (mv t29) 511] true)
 (.seq (.seq (.b6 [i 30 (mv t9) 0,
 i 31 (.bin .neq t30 (.c (I 0))) 1,
 i 32 (mv t31) 3,
 ig 33 (.load true 67 t8) 32 true 7,
 ig 34 (.load true 67 t2) 32 true 7,
 ig 35 (.call (.f o5) [t33,t34]) 32 true 31,
 ig 36 (.not t35) 32 true 63,
 i 37 (.pick t32 t36 (.c (.pv (.bool false)))) 127] false)
 (.cond t37
 (.seq (.b6 [i 38 (.load true 67 t2) 0,
 iz (.store 67 t4 t38) 1,
 i 5 (.mv (.c (.pv (.bool false)))) 3] false)
 .ret)
 .skip))
 (.b6 [i 39 (.load true 67 t8) 0,
 iz (.store 67 t2 t39) 1] false))))))
 (.b6 [i 40 (.bin .add B0 (.c (I 1))) 0,
 i 13 (mv t40) 1] false)))))))
 (.seq (.b6 [i 41 (.load true 67 t2) 0,
 iz (.store 67 t4 t41) 1,
 i 5 (.mv (.c (.pv (.bool true)))) 3] false)
 .ret))⟩
def a1P:n6:=⟨2,90,[.tmp 4],
 .seq (.b6 [i 2 (.box 57 t0) 0,
 i 3 (.box 57 t1) 0,
 i 4 (.mv (.c (.pv (.bool false)))) 0] false)
 (.seq (.b6 [i 5 (.b0 t2 0) 0,
 i 6 (.load true 6 t5) 1,
 i 7 (.b0 t3 0) 0,
 i 8 (.load true 6 t7) 4,
 i 9 (.eqs false [0,0,0,0,0,0] t6 t8) 15,
 i 10 (mv t9) 31,
 ig 11 (.b0 t2 6) 10 true 63,
 ig 12 (.load false 1 w8) 10 true 127,
 ig 13 (.j1 z9) 10 true 255,
 ig 14 (.b0 t3 6) 10 true 63,
 ig 15 (.load false 1 D1) 10 true 575,
 ig 16 (.j1 G4) 10 true 1599,
 ig 17 (.bin .eql B0 G5) 10 true 4095,
 i 18 (.pick u2 E9 (.c (.pv (.bool false)))) 8191,
 i 19 (mv I4) 16383,
 ig 20 (.b0 t2 7) 19 true 32767,
 ig 21 (.b0 O1 0) 19 true 65535,
 ig 22 (.load false 1 M6) 19 true 131071,
 ig 23 (.b0 t3 7) 19 true 32767,
 ig 24 (.b0 V1 0) 19 true 294911,
 ig 25 (.load false 1 X8) 19 true 819199,
 ig 26 (.bin .eql R8 X6) 19 true 2097151,
 i 27 (.pick M0 t26 (.c (.pv (.bool false)))) 4194303,
 i 28 (mv t27) 8388607,
 ig 29 (.b0 t2 7) 28 true 16777215,
 ig 30 (.b0 t29 1) 28 true 33554431,
 ig 31 (.load true 4 t30) 28 true 67108863,
 ig 32 (.b0 t3 7) 28 true 16777215,
 ig 33 (.b0 t32 1) 28 true 150994943,
 ig 34 (.load true 4 t33) 28 true 419430399,
 ig 35 (.eqs false [0,0,0,0] t31 t34) 28 true 1073741823,
 i 36 (.pick t28 t35 (.c (.pv (.bool false)))) 2147483647,
 i 37 (mv t36) 4294967295,
 ig 38 (.b0 t2 34) 37 true 8589934591,
 ig 39 (.b0 t38 0) 37 true 17179869183,
 ig 40 (.load false 1 t39) 37 true 34359738367,
 ig 41 (.b0 t3 34) 37 true 8589934591,
 ig 42 (.b0 t41 0) 37 true 77309411327,
 ig 43 (.load false 1 t42) 37 true 214748364799,
 ig 44 (.bin .eql t40 t43) 37 true 549755813887,
 i 45 (.pick t37 t44 (.c (.pv (.bool false)))) 1099511627775,
 i 46 (mv t45) 2199023255551,
 ig 47 (.b0 t2 40) 46 true 4398046511103,
 ig 48 (.load false 1 t47) 46 true 8796093022207,
 ig 49 (.b0 t3 40) 46 true 4398046511103,
 ig 50 (.load false 1 t49) 46 true 21990232555519,
 ig 51 (.bin .eql t48 t50) 46 true 70368744177663,
 i 52 (.pick t46 t51 (.c (.pv (.bool false)))) 140737488355327,
 i 53 (mv t52) 281474976710655,
 ig 54 (.b0 t2 41) 53 true 562949953421311,
 ig 55 (.load false 1 t54) 53 true 1125899906842623,
 ig 56 (.j1 t55) 53 true 2251799813685247,
 ig 57 (.b0 t3 41) 53 true 562949953421311,
 ig 58 (.load false 1 t57) 53 true 5066549580791807,
 ig 59 (.j1 t58) 53 true 14073748835532799,
 ig 60 (.bin .eql t56 t59) 53 true 36028797018963967,
 i 61 (.pick t53 t60 (.c (.pv (.bool false)))) 72057594037927935,
 i 62 (mv t61) 144115188075855871,
 ig 63 (.b0 t2 42) 62 true 288230376151711743,
 ig 64 (.load true 7 t63) 62 true 576460752303423487,
 ig 65 (.b0 t3 42) 62 true 288230376151711743,
 ig 66 (.load true 7 t65) 62 true 1441151880758558719,
 ig 67 (.eqs false [0,1,0,2,0,0,0] t64 t66) 62 true 4611686018427387903,
 i 68 (.pick t62 t67 (.c (.pv (.bool false)))) 9223372036854775807,
 i 69 (mv t68) 18446744073709551615,
 ig 70 (.b0 t2 49) 69 true 36893488147419103231,
 ig 71 (.load true 6 t70) 69 true 73786976294838206463,
 ig 72 (.b0 t3 49) 69 true 36893488147419103231,
 ig 73 (.load true 6 t72) 69 true 184467440737095516159,
 ig 74 (.eqs false [0,0,0,0,0,0] t71 t73) 69 true 590295810358705651711,
 i 75 (.pick t69 t74 (.c (.pv (.bool false)))) 1180591620717411303423,
 i 76 (mv t75) 2361183241434822606847,
 ig 77 (.b0 t2 55) 76 true 4722366482869645213695,
 ig 78 (.load false 1 t77) 76 true 9444732965739290427391,
 ig 79 (.b0 t3 55) 76 true 4722366482869645213695,
 ig 80 (.load false 1 t79) 76 true 23611832414348226068479,
 ig 81 (.bin .eql t78 t80) 76 true 75557863725914323419135,
 i 82 (.pick t76 t81 (.c (.pv (.bool false)))) 151115727451828646838271,
 i 83 (mv t82) 302231454903657293676543,
 ig 84 (.b0 t2 56) 83 true 604462909807314587353087,
 ig 85 (.load false 1 t84) 83 true 1208925819614629174706175,
 ig 86 (.b0 t3 56) 83 true 604462909807314587353087,
 ig 87 (.load false 1 t86) 83 true 3022314549036572936765439,
 ig 88 (.bin .eql t85 t87) 83 true 9671406556917033397649407,
 i 89 (.pick t83 t88 (.c (.pv (.bool false)))) 19342813113834066795298815,
 i 4 (mv t89) 38685626227668133590597631] false)
 .ret)⟩
def G7:n6:=⟨1,8,[.tmp 2],
 .seq (.b6 [i 2 (.mv (.c (.emp 7))) 0] false)
 (.seq (.seq (.b6 [i 3 (mv t0) 0,
 i 4 (.a9z false t3) 1] false)
 (.cond t4
 (.seq (.b6 [i 2 (.mv (.c (.emp 7))) 0] false)
 .ret)
 .skip))
 (.seq (.b6 [i 5 (.O2 7 0 z0 []) 0,
 i 6 (mv t0) 0,
 i 7 (.append 7 64 t5 t6) 3,
 i 2 (mv t7) 7] false)
 .ret))⟩
def P0:n6:=⟨2,26,[.tmp 4],
 .seq (.b6 [i 4 (.mv (.c (.pv (.bool false)))) 0] false)
 (.seq (.seq (.b6 [i 6 (mv t0) 0,
 i 7 (.j1 t6) 1,
 i 8 (mv t1) 0,
 i 9 (.j1 t8) 4,
 i 10 (.bin .neq t7 t9) 15] false)
 (.cond u2
 (.seq (.b6 [i 4 (.mv (.c (.pv (.bool false)))) 0] false)
 .ret)
 .skip))
 (.seq (.seq (.b6 [i 11 (mv t0) 0,
 i 12 (.j1 w8) 1,
 i 13 (.mv (.c (I 0))) 0] false)
 (.block 0
 (.loop [0,1,12,13]
 (.seq (.b6 [i 14 (.bin .lss B0 z9) 0] false)
 (.seq (.cond D1
 .skip
 (.exit 0))
 (.seq (.block 1
 (.seq (.b6 [i 15 (mv B0) 0,
 i 5 (mv G4) 1] false)
 (.seq (.b6 [i 16 (mv t0) 0,
 i 17 (mv t5) 0,
 i 18 (.j4 7 G5 E9) 3,
 i 19 (.load true 7 I4) 7,
 i 20 (mv t1) 0,
 i 21 (mv t5) 0,
 i 22 (.j4 7 O1 M6) 48,
 i 23 (.load true 7 R8) 112,
 i 24 (.eqs true [0,1,0,2,0,0,0] M0 V1) 255] true)
 (.cond X8
 (.seq (.b6 [i 4 (.mv (.c (.pv (.bool false)))) 0] false)
 .ret)
 .skip))))
 (.b6 [i 25 (.bin .add B0 (.c (I 1))) 0,
 i 13 (mv X6) 1] false)))))))
 (.seq (.b6 [i 4 (.mv (.c (.pv (.bool true)))) 0] false)
 .ret)))⟩
def a8d:n6:=⟨0,2,[.tmp 0],
 .seq (.b6 [i 0 (.mv (.c (.emp 1))) 0] false)
 (.seq (.b6 [i 1 (.O2 1 3 [.pv (.str [])] [(0,.c (.pv (.str [115,97,118,101]))),(1,.c (.pv (.str [114,101,115,116,111,114,101]))),(2,.c (.pv (.str [118,109,115,116,97,116,117,115])))]) 0,
 i 0 (mv t1) 1] false)
 .ret)⟩
def X0:n6:=⟨1,63,[.cell 2 true 67],
 .seq (.b6 [i 1 (.box 3 t0) 0,
 i 2 (.alloc z1) 0] false)
 (.seq (.b6 [i 6 (.load true 3 t1) 0,
 i 7 (.call (.f H6) [t6]) 1,
 i 8 (.build z0 [(0,1,.c (I 9))]) 0,
 i 9 (.build z0 [(0,1,.c (I 9)),(4,1,.c (I 1))]) 0,
 i 10 (.O2 7 2 z0 [(0,t8),(1,t9)]) 12,
 i 11 (.build z1 [(2,1,t7),(1,1,u2),(66,1,.c (I 1))]) 31,
 i 3 (.alloc z1) 0,
 iz (.store 67 t3 w8) 127] false)
 (.seq (.seq (.b6 [i 4 (.mv (.c (I 0))) 0] false)
 (.block 0
 (.loop [1,2,3,4]
 (.seq (.seq (.b6 [i 12 (mv t4) 0,
 i 13 (.b0 t1 1) 0,
 i 14 (.load false 1 B0) 2,
 i 15 (.j1 D1) 6,
 i 16 (.bin .lss z9 G4) 15,
 i 17 (mv G5) 31,
 ig 18 (mv t4) 17 true 63,
 ig 19 (.bin .lss I4 (.c (I 20))) 17 true 127,
 i 20 (.pick E9 M0 (.c (.pv (.bool false)))) 255] false)
 (.cond O1
 .skip
 (.exit 0)))
 (.seq (.block 1
 (.b6 [i 23 (.b0 t3 0) 0,
 i 24 (.load false 1 V1) 1,
 i 25 (.b0 t1 1) 0,
 i 26 (.load false 1 X6) 4,
 i 27 (mv t4) 0,
 i 28 (.j4 5 t26 t27) 28,
 i 29 (.load true 5 t28) 60,
 i 30 (.b0 t3 2) 0,
 i 31 (.load false 1 t30) 128,
 i 32 (.call (.f e9) [t29,t31]) 508,
 i 33 (.O2 7 1 z0 [(0,t32)]) 1020,
 i 34 (.append 7 64 X8 t33) 2047,
 i 35 (.b0 t3 0) 4095,
 iz (.store 1 t35 t34) 8191] true))
 (.b6 [i 21 (mv t4) 0,
 i 22 (.bin .add M6 (.c (I 1))) 1,
 i 4 (mv R8) 3] false))))))
 (.seq (.seq (.b6 [i 5 (.mv (.c (I 0))) 0] false)
 (.block 2
 (.loop [1,2,3,5]
 (.seq (.seq (.b6 [i 36 (mv t5) 0,
 i 37 (.b0 t1 2) 0,
 i 38 (.load false 1 t37) 2,
 i 39 (.j1 t38) 6,
 i 40 (.bin .lss t36 t39) 15,
 i 41 (mv t40) 31,
 ig 42 (mv t5) 41 true 63,
 ig 43 (.bin .lss t42 (.c (I 4))) 41 true 127,
 i 44 (.pick t41 t43 (.c (.pv (.bool false)))) 255] false)
 (.cond t44
 .skip
 (.exit 2)))
 (.seq (.block 3
 (.b6 [i 47 (.b0 t3 1) 0,
 i 48 (.load false 1 t47) 1,
 i 49 (.b0 t3 2) 0,
 i 50 (.load false 1 t49) 4,
 i 51 (.b0 t1 2) 0,
 i 52 (.load false 1 t51) 16,
 i 53 (mv t5) 0,
 i 54 (.j4 1 t52 t53) 112,
 i 55 (.load false 1 t54) 240,
 i 56 (.conv .i64 t55) 496,
 i 57 (.call (.f K8) [t50,.c (I 3),t56]) 1020,
 i 58 (.build z0 [(0,1,.c (I 9)),(4,1,t57)]) 2044,
 i 59 (.O2 7 1 z0 [(0,t58)]) 4092,
 i 60 (.append 7 64 t48 t59) 8191,
 i 61 (.b0 t3 1) 16383,
 iz (.store 1 t61 t60) 32767] true))
 (.b6 [i 45 (mv t5) 0,
 i 46 (.bin .add t45 (.c (I 1))) 1,
 i 5 (mv t46) 3] false))))))
 (.seq (.b6 [i 62 (.load true 67 t3) 0,
 iz (.store 67 t2 t62) 1] false)
 .ret))))⟩
def G6:n6:=⟨0,2,[.tmp 0],
 .seq (.b6 [i 0 (.mv (.c (.emp 1))) 0] false)
 (.seq (.b6 [i 1 (.O2 1 5 [.pv (.str [])] [(0,.c (.pv (.str [70,111,110,116]))),(1,.c (.pv (.str [80,97,116,116,101,114,110]))),(2,.c (.pv (.str [69,110,99,111,100,105,110,103]))),(3,.c (.pv (.str [70,111,114,109]))),(4,.c (.pv (.str [71,101,110,101,114,105,99])))]) 0,
 i 0 (mv t1) 1] false)
 .ret)⟩
def a2Q:n6:=⟨2,8,[.cell 4 true 67],
 .seq (.b6 [i 2 (.box 67 t0) 0,
 i 4 (.alloc z1) 0] false)
 (.seq (.b6 [i 5 (mv t1) 0,
 i 6 (.b0 t2 0) 1,
 iz (.store 1 t6 t5) 3] false)
 (.seq (.b6 [i 7 (.load true 67 t2) 0,
 iz (.store 67 t4 t7) 1] false)
 .ret))⟩
def a5L:n6:=⟨1,5,[.cell 2 true 7],
 .seq (.b6 [i 2 (.alloc z0) 0] false)
 (.seq (.b6 [i 3 (mv t0) 0,
 i 4 (.build z0 [(0,1,.c (I 5)),(3,1,t3)]) 1,
 iz (.store 7 t2 t4) 3] false)
 .ret)⟩
def a2y:n6:=⟨3,30,[.cell 6 true 7,.tmp 7],
 .seq (.b6 [i 3 (.box 67 t0) 0,
 i 5 (.box 7 t2) 0,
 i 6 (.alloc z0) 0,
 i 7 (.mv (.c (I 0))) 0] false)
 (.seq (.b6 [i 11 (.load true 67 t3) 0,
 i 12 (.build z1 [(0,67,w8)]) 1,
 i 8 (.alloc z1) 0,
 iz (.store 67 t8 z9) 7] false)
 (.seq (.b6 [i 14 (.load true 67 t8) 0,
 i 15 (mv t1) 0,
 i 16 (.build z0 [(0,1,.c (I 5)),(3,1,G4)]) 2,
 i 17 (.call (.f s7) [D1,G5]) 7,
 i 13 (mv E9) 15,
 i 18 (.extract B0 0) 31,
 i 19 (.extract B0 1) 31,
 i 9 (.alloc z0) 0,
 iz (.store 7 t9 I4) 191,
 i 10 (mv M0) 511] false)
 (.seq (.seq (.b6 [i 20 (mv u2) 0,
 i 21 (.bin .neq O1 (.c (I 0))) 1] false)
 (.cond M6
 (.seq (.b6 [i 22 (.build z0 []) 0,
 i 23 (mv u2) 0,
 iz (.store 7 t6 R8) 1,
 i 7 (mv V1) 7] false)
 .ret)
 .skip))
 (.seq (.b6 [i 24 (.load true 67 t8) 0,
 i 25 (.load true 7 t9) 0,
 i 26 (.load true 7 t5) 0,
 i 27 (.call (.f w7) [X8,X6,t26]) 7,
 i 28 (.extract t27 0) 15,
 i 29 (.extract t27 1) 15,
 iz (.store 7 t6 t28) 63,
 i 7 (mv t29) 127] false)
 .ret))))⟩
def a8y:n6:=⟨3,23,[.tmp 6],
 .seq (.b6 [i 3 (.box 67 t0) 0,
 i 6 (.mv (.c (.pv (.bool false)))) 0] false)
 (.seq (.b6 [i 10 (.load true 67 t3) 0,
 i 11 (mv t1) 0,
 i 12 (.call (.f R5) [u2,w8]) 3,
 i 9 (mv z9) 7,
 i 13 (.extract t9 0) 15,
 i 14 (.extract t9 1) 15,
 i 7 (.alloc z1) 0,
 iz (.store 67 t7 B0) 95,
 i 8 (mv D1) 255] false)
 (.seq (.b6 [i 15 (mv t8) 0,
 i 16 (.bin .eql G4 (.c (I 0))) 1,
 i 17 (mv G5) 3,
 ig 18 (.b0 t7 0) 17 true 7,
 ig 19 (.load false 1 I4) 17 true 15,
 ig 20 (mv t2) 17 true 7,
 ig 21 (.call (.f m7) [M0,O1]) 17 true 63,
 i 22 (.pick E9 M6 (.c (.pv (.bool false)))) 127,
 i 6 (mv R8) 255] false)
 .ret))⟩
def a4z:n6:=⟨1,6,[.cell 2 true 7],
 .seq (.b6 [i 2 (.alloc z0) 0] false)
 (.seq (.seq (.b6 [i 3 (mv t0) 0] false)
 (.cond t3
 (.seq (.b6 [i 4 (.build z0 [(0,1,.c (I 2)),(2,1,.c (I 1))]) 0,
 iz (.store 7 t2 t4) 1] false)
 .ret)
 .skip))
 (.seq (.b6 [i 5 (.build z0 [(0,1,.c (I 2))]) 0,
 iz (.store 7 t2 t5) 1] false)
 .ret))⟩
def a1N:n6:=⟨0,10,[.cell 0 true 67],
 .seq (.b6 [i 0 (.alloc z1) 0] false)
 (.seq (.b6 [i 1 (.call (.f u6) [.c (.emp 1)]) 0,
 i 2 (.build z2 [(0,1,.c (I 1)),(1,1,.c (.pv (.str [97,98,99])))]) 0,
 i 3 (.O2 7 1 z2 [(0,t2)]) 2,
 i 4 (.append 7 112 t1 t3) 7,
 i 5 (.build z0 [(0,1,.c (I 9))]) 0,
 i 6 (.build z0 [(0,1,.c (I 9)),(4,1,.c (I 1))]) 0,
 i 7 (.O2 7 2 z0 [(0,t5),(1,t6)]) 48,
 i 8 (.build z4 [(40,1,.c (I 1))]) 0,
 i 9 (.build z1 [(2,1,t4),(1,1,t7),(5,57,t8)]) 255,
 iz (.store 67 t0 t9) 511] false)
 .ret)⟩
def a5O:n6:=⟨2,17,[.tmp 4],
 .seq (.b6 [i 2 (.box 7 t0) 0,
 i 4 (.mv (.c (.pv (.bool false)))) 0] false)
 (.seq (.seq (.b6 [i 5 (.b0 t2 0) 0,
 i 6 (.load false 1 t5) 1] false)
 (.block 0
 (.seq (.seq (.b6 [i 8 (.bin .eql t6 (.c (I 6))) 0,
 i 7 (mv t8) 1] false)
 (.cond t7
 .skip
 (.seq (.b6 [i 9 (.bin .eql t6 (.c (I 7))) 0,
 i 7 (mv t9) 1] false)
 (.cond t7
 .skip
 (.seq (.b6 [i 10 (.bin .eql t6 (.c (I 8))) 0,
 i 7 (mv u2) 1] false)
 (.cond t7
 .skip
 (.seq (.b6 [i 11 (.bin .eql t6 (.c (I 9))) 0,
 i 7 (mv w8) 1] false)
 (.cond t7
 .skip
 (.b6 [i 12 (.bin .eql t6 (.c (I 11))) 0,
 i 7 (mv z9) 1] false)))))))))
 (.cond t7
 (.seq (.b6 [i 13 (.b0 t2 4) 0,
 i 14 (.load false 1 B0) 1,
 i 15 (mv t1) 0,
 i 16 (.bin .geq D1 G4) 7,
 i 4 (mv G5) 15] false)
 .ret)
 .skip))))
 (.seq (.b6 [i 4 (.mv (.c (.pv (.bool false)))) 0] false)
 .ret))⟩
def a6p:n6:=⟨3,34,[.cell 6 true 67,.tmp 7],
 .seq (.b6 [i 3 (.box 67 t0) 0,
 i 6 (.alloc z1) 0,
 i 7 (.mv (.c (I 0))) 0] false)
 (.seq (.seq (.b6 [i 9 (.b0 t3 0) 0,
 i 10 (.load false 1 t9) 1,
 i 11 (.j1 u2) 3,
 i 12 (mv t1) 0,
 i 13 (.bin .sub w8 z9) 15,
 i 14 (mv t2) 0,
 i 15 (.j1 D1) 32,
 i 16 (.bin .add B0 G4) 127,
 i 17 (.bin .gtr G5 (.c (I 100))) 255] false)
 (.cond E9
 (.seq (.b6 [i 18 (.load true 67 t3) 0,
 iz (.store 67 t6 I4) 1,
 i 7 (.mv (.c (I 21))) 3] false)
 .ret)
 .skip))
 (.seq (.b6 [i 8 (.mv (.c (.emp 7))) 0] false)
 (.seq (.b6 [i 19 (mv t8) 0,
 i 20 (.b0 t3 0) 0,
 i 21 (.load false 1 O1) 2,
 i 22 (.b0 t3 0) 0,
 i 23 (.load false 1 R8) 8,
 i 24 (.j1 V1) 24,
 i 25 (mv t1) 0,
 i 26 (.bin .sub X8 X6) 120,
 i 27 (.slice 7 M6 none (some t26) none) 254,
 i 28 (.append 7 64 M0 t27) 511,
 i 8 (mv t28) 1023] false)
 (.seq (.b6 [i 29 (mv t8) 0,
 i 30 (mv t2) 0,
 i 31 (.append 7 64 t29 t30) 3,
 i 32 (.b0 t3 0) 7,
 iz (.store 1 t32 t31) 15] false)
 (.seq (.b6 [i 33 (.load true 67 t3) 0,
 iz (.store 67 t6 t33) 1,
 i 7 (.mv (.c (I 0))) 3] false)
 .ret)))))⟩
def a8g:n6:=⟨2,18,[.tmp 4],
 .seq (.b6 [i 4 (.mv (.c (.pv (.bool false)))) 0] false)
 (.seq (.seq (.b6 [i 5 (.mv (.c (I 0))) 0] false)
 (.block 0
 (.loop [0,1,5]
 (.seq (.seq (.b6 [i 6 (mv t5) 0,
 i 7 (mv t0) 0,
 i 8 (.j1 t7) 2,
 i 9 (.bin .lss t6 t8) 7] false)
 (.cond t9
 .skip
 (.exit 0)))
 (.seq (.block 1
 (.seq (.b6 [i 12 (mv t0) 0,
 i 13 (mv t5) 0,
 i 14 (.j4 7 z9 B0) 3,
 i 15 (.load true 7 D1) 7,
 i 16 (mv t1) 0,
 i 17 (.call (.f a1Y) [G4,G5]) 31] false)
 (.cond E9
 (.seq (.b6 [i 4 (.mv (.c (.pv (.bool true)))) 0] false)
 .ret)
 .skip)))
 (.b6 [i 10 (mv t5) 0,
 i 11 (.bin .add u2 (.c (I 1))) 1,
 i 5 (mv w8) 3] false))))))
 (.seq (.b6 [i 4 (.mv (.c (.pv (.bool false)))) 0] false)
 .ret))⟩
def b1l:n6:=⟨1,5,[.cell 2 true 7],
 .seq (.b6 [i 2 (.alloc z0) 0] false)
 (.seq (.b6 [i 3 (mv t0) 0,
 i 4 (.build z0 [(0,1,.c (I 3)),(2,1,t3)]) 1,
 iz (.store 7 t2 t4) 3] false)
 .ret)⟩
def a4W:n6:=⟨4,40,[.tmp 8],
 .seq (.b6 [i 5 (.box 7 t1) 0,
 i 8 (.mv (.c (.emp 7))) 0] false)
 (.seq (.b6 [i 11 (mv t0) 0,
 i 12 (.b0 t5 4) 0,
 i 13 (.load false 1 z9) 2,
 i 14 (.j4 7 w8 B0) 7,
 i 15 (.load true 7 D1) 15,
 i 9 (.alloc z2) 0,
 iz (.store 7 t9 G4) 63] false)
 (.seq (.b6 [i 16 (.b0 t5 5) 0,
 i 17 (.load false 1 G5) 1,
 i 18 (mv t2) 0,
 i 19 (.bin .add E9 I4) 7,
 i 10 (mv M0) 15] false)
 (.seq (.b6 [i 20 (.b0 t9 1) 0,
 i 21 (.load false 1 O1) 1,
 i 22 (mv u2) 0,
 i 23 (.a2A M6 none (some R8)) 7,
 i 24 (mv t3) 0,
 i 25 (.bin .add V1 X8) 31,
 i 26 (.b0 t9 1) 0,
 i 27 (.load false 1 t26) 64,
 i 28 (mv u2) 0,
 i 29 (mv t3) 0,
 i 30 (.J0 t29) 512,
 i 31 (.bin .add t28 t30) 1792,
 i 32 (.a2A t27 (some t31) none) 4032,
 i 33 (.bin .add X6 t32) 8191,
 i 34 (.b0 t9 1) 16383,
 iz (.store 1 t34 t33) 32767] true)
 (.seq (.b6 [i 35 (mv t0) 0,
 i 36 (.b0 t5 4) 0,
 i 37 (.load false 1 t36) 2,
 i 38 (.load true 7 t9) 0,
 i 39 (.call (.f K6) [t35,t37,t38]) 15,
 i 8 (mv t39) 31] false)
 .ret))))⟩
def a4X:n6:=⟨4,61,[.tmp 8],
 .seq (.b6 [i 5 (.box 7 t1) 0,
 i 8 (.mv (.c (.emp 7))) 0] false)
 (.seq (.b6 [i 13 (mv t0) 0,
 i 14 (.b0 t5 4) 0,
 i 15 (.load false 1 D1) 2,
 i 16 (.j4 7 B0 G4) 7,
 i 17 (.load true 7 G5) 15,
 i 9 (.alloc z2) 0,
 iz (.store 7 t9 E9) 63] false)
 (.seq (.b6 [i 10 (.mv (.c (.emp 7))) 0] false)
 (.seq (.seq (.b6 [i 11 (.mv (.c (I 0))) 0] false)
 (.block 0
 (.loop [0,2,3,5,9,10,11]
 (.seq (.seq (.b6 [i 18 (mv w8) 0,
 i 19 (.b0 t9 2) 0,
 i 20 (.load false 1 M0) 2,
 i 21 (.j1 O1) 6,
 i 22 (.bin .lss I4 M6) 15] false)
 (.cond R8
 .skip
 (.exit 0)))
 (.seq (.block 1
 (.seq (.b6 [i 25 (mv w8) 0,
 i 26 (.b0 t5 5) 0,
 i 27 (.load false 1 t26) 2,
 i 28 (.bin .sub X6 t27) 7,
 i 29 (mv t2) 0,
 i 30 (.bin .sub t28 t29) 31,
 i 12 (mv t30) 63] false)
 (.seq (.b6 [i 31 (mv z9) 0,
 i 32 (.bin .geq t31 (.c (I 0))) 1,
 i 33 (mv t32) 3,
 ig 34 (mv z9) 33 true 7,
 ig 35 (mv t3) 33 true 7,
 ig 36 (.j1 t35) 33 true 23,
 ig 37 (.bin .lss t34 t36) 33 true 63,
 i 38 (.pick t33 t37 (.c (.pv (.bool false)))) 127] false)
 (.cond t38
 (.b6 [i 39 (mv u2) 0,
 i 40 (mv t3) 0,
 i 41 (mv z9) 0,
 i 42 (.j4 7 t40 t41) 6,
 i 43 (.load true 7 t42) 14,
 i 44 (.O2 7 1 z0 [(0,t43)]) 30,
 i 45 (.append 7 64 t39 t44) 63,
 i 10 (mv t45) 127] false)
 (.b6 [i 46 (mv u2) 0,
 i 47 (.b0 t9 2) 0,
 i 48 (.load false 1 t47) 2,
 i 49 (mv w8) 0,
 i 50 (.j4 7 t48 t49) 14,
 i 51 (.load true 7 t50) 30,
 i 52 (.O2 7 1 z0 [(0,t51)]) 62,
 i 53 (.append 7 64 t46 t52) 127,
 i 10 (mv t53) 255] false)))))
 (.b6 [i 23 (mv w8) 0,
 i 24 (.bin .add V1 (.c (I 1))) 1,
 i 11 (mv X8) 3] false))))))
 (.seq (.b6 [i 54 (mv u2) 0,
 i 55 (.b0 t9 2) 1,
 iz (.store 1 t55 t54) 3] false)
 (.seq (.b6 [i 56 (mv t0) 0,
 i 57 (.b0 t5 4) 0,
 i 58 (.load false 1 t57) 2,
 i 59 (.load true 7 t9) 0,
 i 60 (.call (.f K6) [t56,t58,t59]) 15,
 i 8 (mv t60) 31] false)
 .ret)))))⟩
def a8a:n6:=⟨4,75,[.tmp 8,.tmp 9],
 .seq (.b6 [i 5 (.box 7 t1) 0,
 i 6 (.box 7 t2) 0,
 i 7 (.box 7 t3) 0,
 i 8 (.mv (.c (.emp 7))) 0,
 i 9 (.mv (.c (.pv (.bool false)))) 8] false)
 (.seq (.b6 [i 15 (mv t0) 0,
 i 16 (.b0 t5 4) 0,
 i 17 (.load false 1 G5) 2,
 i 18 (.j4 7 G4 E9) 7,
 i 19 (.load true 7 I4) 15,
 i 10 (.alloc z2) 0,
 iz (.store 7 u2 M0) 63] false)
 (.seq (.b6 [i 20 (.b0 u2 3) 0,
 i 21 (.load false 1 O1) 1,
 i 22 (.load true 7 t6) 0,
 i 23 (.call (.f a1W) [M6,R8]) 7,
 i 11 (mv V1) 15] false)
 (.seq (.seq (.b6 [i 24 (mv w8) 0,
 i 25 (.bin .lss X8 (.c (I 0))) 1,
 i 26 (mv X6) 3,
 ig 27 (mv w8) 26 false 7,
 ig 28 (.b0 u2 4) 26 false 7,
 ig 29 (.load false 1 t28) 26 false 23,
 ig 30 (.j1 t29) 26 false 55,
 ig 31 (.bin .geq t27 t30) 26 false 127,
 i 32 (.pick t26 (.c (.pv (.bool true))) t31) 255] false)
 (.cond t32
 (.seq (.seq (.b6 [i 33 (.b0 u2 3) 0,
 i 34 (.load false 1 t33) 1,
 i 35 (.j1 t34) 3,
 i 36 (.b0 u2 5) 0,
 i 37 (.load false 1 t36) 8,
 i 38 (.bin .geq t35 t37) 31] false)
 (.cond t38
 (.seq (.b6 [i 8 (.mv (.c (.emp 7))) 0,
 i 9 (.mv (.c (.pv (.bool false)))) 1] false)
 .ret)
 .skip))
 (.seq (.b6 [i 12 (.mv (.c (.emp 7))) 0,
 i 13 (.mv (.c (.emp 7))) 1] false)
 (.seq (.b6 [i 39 (mv z9) 0,
 i 40 (.b0 u2 3) 0,
 i 41 (.load false 1 t40) 2,
 i 42 (.append 7 64 t39 t41) 7,
 i 43 (.load true 7 t6) 0,
 i 44 (.O2 7 1 z0 [(0,t43)]) 16,
 i 45 (.append 7 64 t42 t44) 63,
 i 46 (.b0 u2 3) 127,
 iz (.store 1 t46 t45) 255] true)
 (.seq (.b6 [i 47 (mv B0) 0,
 i 48 (.b0 u2 4) 0,
 i 49 (.load false 1 t48) 2,
 i 50 (.append 7 64 t47 t49) 7,
 i 51 (.load true 7 t7) 0,
 i 52 (.O2 7 1 z0 [(0,t51)]) 16,
 i 53 (.append 7 64 t50 t52) 63,
 i 54 (.b0 u2 4) 127,
 iz (.store 1 t54 t53) 255] true)
 (.seq (.b6 [i 55 (mv t0) 0,
 i 56 (.b0 t5 4) 0,
 i 57 (.load false 1 t56) 2,
 i 58 (.load true 7 u2) 0,
 i 59 (.call (.f K6) [t55,t57,t58]) 15,
 i 8 (mv t59) 31,
 i 9 (.mv (.c (.pv (.bool true)))) 63] false)
 .ret)))))
 .skip))
 (.seq (.b6 [i 14 (.mv (.c (.emp 7))) 0] false)
 (.seq (.b6 [i 60 (mv D1) 0,
 i 61 (.b0 u2 4) 0,
 i 62 (.load false 1 t61) 2,
 i 63 (.append 7 64 t60 t62) 7,
 i 14 (mv t63) 15] false)
 (.seq (.b6 [i 64 (mv D1) 0,
 i 65 (mv w8) 0,
 i 66 (.load true 7 t7) 0,
 i 67 (.j4 7 t64 t65) 7,
 iz (.store 7 t67 t66) 15] false)
 (.seq (.b6 [i 68 (mv D1) 0,
 i 69 (.b0 u2 4) 1,
 iz (.store 1 t69 t68) 3] false)
 (.seq (.b6 [i 70 (mv t0) 0,
 i 71 (.b0 t5 4) 0,
 i 72 (.load false 1 t71) 2,
 i 73 (.load true 7 u2) 0,
 i 74 (.call (.f K6) [t70,t72,t73]) 15,
 i 8 (mv t74) 31,
 i 9 (.mv (.c (.pv (.bool true)))) 63] false)
 .ret))))))))⟩
def a9g:n6:=⟨4,76,[.cell 8 true 7],
 .seq (.b6 [i 7 (.box 5 t3) 0,
 i 8 (.alloc z0) 0] false)
 (.seq (.b6 [i 11 (mv t0) 0,
 i 12 (mv t2) 0,
 i 13 (.b0 t7 1) 0,
 i 14 (.load false 1 B0) 4,
 i 15 (.conv .i64 D1) 12,
 i 16 (.call (.f K8) [w8,z9,G4]) 31,
 i 9 (mv G5) 63] false)
 (.seq (.seq (.b6 [i 17 (mv t9) 0,
 i 18 (.bin .lss E9 (.c (I 0))) 1] false)
 (.cond I4
 (.seq (.b6 [i 19 (.b0 t7 1) 0,
 i 20 (.load false 1 M0) 1,
 i 21 (.conv .i64 O1) 3,
 i 22 (.build z0 [(0,1,.c (I 3)),(2,1,M6)]) 7,
 iz (.store 7 t8 R8) 15] false)
 .ret)
 .skip))
 (.seq (.b6 [i 23 (mv t1) 0,
 i 24 (.b0 t7 3) 0,
 i 25 (.load false 1 X8) 2,
 i 26 (.bin .rem X6 (.c (.pv (.int .i32 (5))))) 6,
 i 27 (.bin .eql t26 (.c (.pv (.int .i32 (3))))) 14,
 i 28 (mv t9) 0,
 i 29 (.build z0 [(0,1,V1),(1,1,t27),(4,1,t28)]) 63,
 i 10 (.alloc z0) 0,
 iz (.store 7 u2 t29) 255] false)
 (.seq (.seq (.b6 [i 30 (mv t2) 0,
 i 31 (.bin .eql t30 (.c (I 3))) 1,
 i 32 (mv t31) 3,
 ig 33 (mv t2) 32 false 7,
 ig 34 (.bin .eql t33 (.c (I 4))) 32 false 15,
 i 35 (.pick t32 (.c (.pv (.bool true))) t34) 31] false)
 (.cond t35
 (.seq (.b6 [i 36 (.load true 7 u2) 0,
 iz (.store 7 t8 t36) 1] false)
 .ret)
 .skip))
 (.seq (.b6 [i 37 (mv t0) 0,
 i 38 (mv t9) 0,
 i 39 (.j4 7 t37 t38) 3,
 i 40 (.b0 t39 1) 7,
 i 41 (.load false 1 t40) 15,
 i 42 (.J0 t41) 31,
 i 43 (mv t0) 0,
 i 44 (mv t9) 0,
 i 45 (.j4 7 t43 t44) 192,
 i 46 (.b0 t45 2) 448,
 i 47 (.load false 1 t46) 960,
 i 48 (.j1 t47) 1984,
 i 49 (.bin .add t42 t48) 4095,
 i 50 (.b0 u2 6) 8191,
 iz (.store 1 t50 t49) 16383] true)
 (.seq (.seq (.b6 [i 51 (.b0 t7 2) 0,
 i 52 (.load false 1 t51) 1,
 i 53 (.bin .rem t52 (.c (.pv (.int .u8 (3))))) 3,
 i 54 (.bin .eql t53 (.c (.pv (.int .u8 (2))))) 7] false)
 (.cond t54
 (.seq (.b6 [i 55 (.b0 t7 2) 0,
 i 56 (.load false 1 t55) 1,
 i 57 (.conv .i64 t56) 3,
 i 58 (.b0 u2 6) 0,
 i 59 (.load false 1 t58) 8,
 i 60 (.bin .add t59 (.c (I 1))) 24,
 i 61 (.bin .rem t57 t60) 63,
 i 62 (.b0 u2 5) 127,
 iz (.store 1 t62 t61) 255] false)
 (.b6 [i 63 (.b0 t7 2) 0,
 i 64 (.load false 1 t63) 1,
 i 65 (.conv .i64 t64) 3,
 i 66 (.bin .quo t65 (.c (I 3))) 7,
 i 67 (.b0 u2 6) 0,
 i 68 (.load false 1 t67) 16,
 i 69 (.b0 u2 5) 0,
 i 70 (.load false 1 t69) 64,
 i 71 (.bin .sub t68 t70) 240,
 i 72 (.bin .add t71 (.c (I 1))) 496,
 i 73 (.bin .rem t66 t72) 1023,
 i 74 (.b0 u2 6) 2047,
 iz (.store 1 t74 t73) 4095] false))
 .skip))
 (.seq (.b6 [i 75 (.load true 7 u2) 0,
 iz (.store 7 t8 t75) 1] false)
 .ret)))))))⟩
def a0k:n6:=⟨1,76,[.cell 2 true 67,.tmp 3],
 .seq (.b6 [i 1 (.box 67 t0) 0,
 i 2 (.alloc z1) 0,
 i 3 (.mv (.c (I 0))) 0] false)
 (.seq (.seq (.b6 [i 6 (.b0 t1 0) 0,
 i 7 (.b0 t6 3) 1,
 i 8 (.load false 1 t7) 3,
 i 9 (.j1 t8) 7,
 i 10 (.bin .geq t9 (.c (I 10))) 15,
 i 11 (mv u2) 31,
 ig 12 (.b0 t1 0) 11 false 63,
 ig 13 (.b0 z9 62) 11 false 127,
 ig 14 (.load false 1 B0) 11 false 255,
 ig 15 (.j1 D1) 11 false 511,
 ig 16 (.bin .geq G4 (.c (I 20))) 11 false 1023,
 i 17 (.pick w8 (.c (.pv (.bool true))) G5) 2047] false)
 (.cond E9
 (.seq (.b6 [i 18 (.b0 t1 0) 0,
 i 19 (.load true 67 I4) 1,
 iz (.store 67 t2 M0) 3,
 i 3 (.mv (.c (I 26))) 7] false)
 .ret)
 .skip))
 (.seq (.b6 [i 21 (.b0 t1 0) 0,
 i 22 (.load true 67 M6) 1,
 i 23 (.b0 t1 0) 0,
 i 24 (.b0 V1 4) 4,
 i 25 (.load false 1 X8) 12,
 i 26 (.bin .add X6 (.c (I 1))) 28,
 i 27 (.build z0 [(0,1,.c (I 12)),(2,1,t26)]) 60,
 i 28 (.O2 7 1 z0 [(0,t27)]) 124,
 i 29 (.call (.f D5) [R8,t28]) 255,
 i 20 (mv t29) 511,
 i 30 (.extract O1 0) 1023,
 i 31 (.extract O1 1) 1023,
 i 4 (.alloc z1) 0,
 iz (.store 67 t4 t30) 6143,
 i 5 (mv t31) 16383] false)
 (.seq (.seq (.b6 [i 32 (mv t5) 0,
 i 33 (.bin .neq t32 (.c (I 0))) 1] false)
 (.cond t33
 (.seq (.b6 [i 34 (.b0 t1 0) 0,
 i 35 (.load true 67 t34) 1,
 i 36 (mv t5) 0,
 iz (.store 67 t2 t35) 3,
 i 3 (mv t36) 15] false)
 .ret)
 .skip))
 (.seq (.b6 [i 37 (.b0 t4 4) 0,
 i 38 (.load false 1 t37) 1,
 i 39 (.bin .add t38 (.c (I 1))) 3,
 i 40 (.b0 t4 4) 7,
 iz (.store 1 t40 t39) 15] false)
 (.seq (.b6 [i 41 (.b0 t4 3) 0,
 i 42 (.load false 1 t41) 1,
 i 43 (.b0 t4 3) 0,
 i 44 (.load false 1 t43) 4,
 i 45 (.j1 t44) 12,
 i 46 (.b0 t4 3) 0,
 i 47 (.load false 1 t46) 32,
 i 48 (.j1 t47) 96,
 i 49 (.slice 3 t42 none (some t45) (some t48)) 255,
 i 50 (.b0 t4 4) 0,
 i 51 (.load false 1 t50) 512,
 i 52 (.b0 t4 2) 0,
 i 53 (.load false 1 t52) 2048,
 i 54 (.b0 t4 62) 0,
 i 55 (.load false 1 t54) 8192,
 i 56 (.j1 t55) 24576,
 i 57 (.build [I 0,.emp 7,I 0] [(0,1,t51),(1,1,t53),(2,1,t56)]) 65024,
 i 58 (.O2 3 1 [I 0,.emp 7,I 0] [(0,t57)]) 130560,
 i 59 (.append 3 40 t49 t58) 262143,
 i 60 (.b0 t4 3) 524287,
 iz (.store 1 t60 t59) 1048575] true)
 (.seq (.b6 [i 61 (.b0 t4 62) 0,
 i 62 (.load false 1 t61) 1,
 i 63 (.b0 t4 62) 0,
 i 64 (.load false 1 t63) 4,
 i 65 (.j1 t64) 12,
 i 66 (.b0 t4 62) 0,
 i 67 (.load false 1 t66) 32,
 i 68 (.j1 t67) 96,
 i 69 (.slice 57 t62 none (some t65) (some t68)) 255,
 i 70 (.b0 t4 5) 0,
 i 71 (.load true 57 t70) 512,
 i 72 (.O2 57 1 z4 [(0,t71)]) 1536,
 i 73 (.append 57 520 t69 t72) 4095,
 i 74 (.b0 t4 62) 8191,
 iz (.store 1 t74 t73) 16383] true)
 (.seq (.b6 [i 75 (.load true 67 t4) 0,
 iz (.store 67 t2 t75) 1,
 i 3 (.mv (.c (I 0))) 3] false)
 .ret)))))))⟩
def R9:n6:=⟨1,104,[.cell 2 true 67,.tmp 3],
 .seq (.b6 [i 1 (.box 67 t0) 0,
 i 2 (.alloc z1) 0,
 i 3 (.mv (.c (I 0))) 0] false)
 (.seq (.b6 [i 11 (.b0 t1 0) 0,
 i 12 (.load true 67 w8) 1,
 i 13 (.call (.f O6) [z9,.c (I 1)]) 3,
 i 10 (mv B0) 7,
 i 14 (.extract u2 0) 15,
 i 15 (.extract u2 1) 15,
 i 4 (mv D1) 31,
 i 5 (mv G4) 127] false)
 (.seq (.seq (.b6 [i 16 (mv t5) 0,
 i 17 (.bin .neq G5 (.c (I 0))) 1] false)
 (.cond E9
 (.seq (.b6 [i 18 (.b0 t1 0) 0,
 i 19 (.load true 67 I4) 1,
 i 20 (mv t5) 0,
 iz (.store 67 t2 M0) 3,
 i 3 (mv O1) 15] false)
 .ret)
 .skip))
 (.seq (.seq (.b6 [i 21 (mv t4) 0,
 i 22 (.j4 7 M6 (.c (I 0))) 1,
 i 23 (.b0 R8 0) 3,
 i 24 (.load false 1 V1) 7,
 i 25 (.bin .neq X8 (.c (I 12))) 15] false)
 (.cond X6
 (.seq (.b6 [i 26 (.b0 t1 0) 0,
 i 27 (.load true 67 t26) 1,
 iz (.store 67 t2 t27) 3,
 i 3 (.mv (.c (I 22))) 7] false)
 .ret)
 .skip))
 (.seq (.b6 [i 28 (.load true 67 t1) 0,
 i 29 (mv t4) 0,
 i 30 (.j4 7 t29 (.c (I 0))) 2,
 i 31 (.b0 t30 2) 6,
 i 32 (.load false 1 t31) 14,
 i 33 (.call (.f C8) [t28,t32]) 31,
 i 6 (mv t33) 63] true)
 (.seq (.seq (.b6 [i 34 (mv t6) 0,
 i 35 (.bin .lss t34 (.c (I 0))) 1] false)
 (.cond t35
 (.seq (.b6 [i 36 (.b0 t1 0) 0,
 i 37 (.load true 67 t36) 1,
 iz (.store 67 t2 t37) 3,
 i 3 (.mv (.c (I 34))) 7] false)
 .ret)
 .skip))
 (.seq (.b6 [i 38 (.b0 t1 0) 0,
 i 39 (.b0 t38 3) 1,
 i 40 (.load false 1 t39) 3,
 i 41 (mv t6) 0,
 i 42 (.j4 3 t40 t41) 15,
 i 43 (.load true 3 t42) 31,
 i 7 (.alloc [I 0,.emp 7,I 0]) 0,
 iz (.store 3 t7 t43) 127] false)
 (.seq (.b6 [i 44 (.mkf (.func n8) [] [t7]) 0,
 i 8 (mv t44) 1] false)
 (.seq (.b6 [i 46 (.b0 t1 0) 0,
 i 47 (.load true 67 t46) 1,
 i 48 (.call (.f Q2) [t47,.c (I 1)]) 3,
 i 45 (mv t48) 7,
 i 49 (.extract t45 0) 15,
 i 50 (.extract t45 1) 15,
 i 9 (.alloc z1) 0,
 iz (.store 67 t9 t49) 95,
 i 5 (mv t50) 255] false)
 (.seq (.seq (.b6 [i 51 (mv t5) 0,
 i 52 (.bin .neq t51 (.c (I 0))) 1] false)
 (.cond t52
 (.seq (.b6 [i 53 (.b0 t1 0) 0,
 i 54 (.load true 67 t53) 1,
 i 55 (mv t5) 0,
 iz (.store 67 t2 t54) 3,
 i 3 (mv t55) 15] false)
 .ret)
 .skip))
 (.seq (.seq (.b6 [i 56 (.b0 t9 0) 0,
 i 57 (.load false 1 t56) 1,
 i 58 (mv t8) 0,
 i 59 (.call (.f J3) [t57,t58]) 7,
 i 60 (mv t59) 15,
 ig 61 (.b0 t9 1) 60 false 31,
 ig 62 (.load false 1 t61) 60 false 63,
 ig 63 (mv t8) 60 false 31,
 ig 64 (.call (.f J3) [t62,t63]) 60 false 255,
 i 65 (.pick t60 (.c (.pv (.bool true))) t64) 511] false)
 (.cond t65
 (.seq (.b6 [i 66 (.b0 t1 0) 0,
 i 67 (.load true 67 t66) 1,
 iz (.store 67 t2 t67) 3,
 i 3 (.mv (.c (I 34))) 7] false)
 .ret)
 .skip))
 (.seq (.b6 [i 68 (.b0 t7 1) 0,
 i 69 (.load false 1 t68) 1,
 i 70 (.b0 t9 3) 0,
 i 71 (.load false 1 t70) 4,
 i 72 (mv t6) 0,
 i 73 (mv t6) 0,
 i 74 (.slice 3 t71 none (some t72) (some t73)) 60,
 i 75 (.b0 t9 2) 15,
 iz (.store 1 t75 t69) 143,
 i 76 (.b0 t9 3) 511,
 iz (.store 1 t76 t74) 1023] true)
 (.seq (.seq (.b6 [i 77 (.b0 t7 2) 0,
 i 78 (.load false 1 t77) 1,
 i 79 (.bin .geq t78 (.c (I 0))) 3,
 i 80 (mv t79) 7,
 ig 81 (.b0 t7 2) 80 true 15,
 ig 82 (.load false 1 t81) 80 true 31,
 ig 83 (.b0 t9 62) 80 true 15,
 ig 84 (.load false 1 t83) 80 true 79,
 ig 85 (.j1 t84) 80 true 207,
 ig 86 (.bin .lss t82 t85) 80 true 511,
 i 87 (.pick t80 t86 (.c (.pv (.bool false)))) 1023] false)
 (.cond t87
 (.b6 [i 88 (.b0 t9 62) 0,
 i 89 (.load false 1 t88) 1,
 i 90 (.b0 t7 2) 0,
 i 91 (.load false 1 t90) 4,
 i 92 (.j4 57 t89 t91) 15,
 i 93 (.load true 57 t92) 31,
 i 94 (.b0 t9 62) 0,
 i 95 (.load false 1 t94) 64,
 i 96 (.b0 t7 2) 0,
 i 97 (.load false 1 t96) 256,
 i 98 (.b0 t7 2) 0,
 i 99 (.load false 1 t98) 1024,
 i 100 (.slice 57 t95 none (some t97) (some t99)) 4032,
 i 101 (.b0 t9 5) 255,
 iz (.store 57 b8e t93) 8447,
 i 102 (.b0 t9 62) 32767,
 iz (.store 1 b8f b8d) 65535] true)
 .skip))
 (.seq (.b6 [i 103 (.load true 67 t9) 0,
 iz (.store 67 t2 b8g) 1,
 i 3 (.mv (.c (I 0))) 3] false)
 .ret)))))))))))))⟩
def O9:n6:=⟨1,31,[.cell 2 true 67,.tmp 3],
 .seq (.b6 [i 1 (.box 67 t0) 0,
 i 2 (.alloc z1) 0,
 i 3 (.mv (.c (I 0))) 0] false)
 (.seq (.b6 [i 4 (.mv (.c (.emp 7))) 0] false)
 (.seq (.seq (.b6 [i 7 (.b0 t1 0) 0,
 i 8 (.b0 t7 3) 1,
 i 9 (.load false 1 t8) 3,
 i 10 (.j1 t9) 7,
 i 11 (.b0 t1 0) 0,
 i 12 (.b0 w8 2) 16,
 i 13 (.load false 1 z9) 48,
 i 14 (.call (.f F7) [B0]) 112,
 i 15 (.build [I 0,I 0,I 0] [(0,1,u2),(1,1,D1),(2,1,.c (I 20000))]) 255,
 i 16 (.mv (.c (I 0))) 0] true)
 (.block 0
 (.loop [1,2,4,15,16]
 (.seq (.b6 [i 17 (.bin .lss G5 (.c (I 3))) 0] false)
 (.seq (.cond E9
 .skip
 (.exit 0))
 (.seq (.block 1
 (.seq (.b6 [i 18 (.index false 3 1 G4 G5) 0,
 i 6 (mv I4) 1] false)
 (.b6 [i 19 (mv t4) 0,
 i 20 (mv t6) 0,
 i 21 (.build z0 [(0,1,.c (I 3)),(2,1,O1)]) 2,
 i 22 (.O2 7 1 z0 [(0,M6)]) 6,
 i 23 (.append 7 64 M0 R8) 15,
 i 4 (mv V1) 31] false)))
 (.b6 [i 24 (.bin .add G5 (.c (I 1))) 0,
 i 16 (mv X8) 1] false)))))))
 (.seq (.b6 [i 25 (.b0 t1 0) 0,
 i 26 (.load true 67 X6) 1,
 i 27 (mv t4) 0,
 i 28 (.call (.f D5) [t26,t27]) 7,
 i 29 (.extract t28 0) 15,
 i 30 (.extract t28 1) 15,
 iz (.store 67 t2 t29) 63,
 i 3 (mv t30) 127] false)
 .ret)))⟩
def V4:n6:=⟨2,26,[.tmp 4],
 .seq (.b6 [i 4 (.mv (.c (.pv (.bool false)))) 0] false)
 (.seq (.seq (.b6 [i 6 (mv t0) 0,
 i 7 (.j1 t6) 1,
 i 8 (mv t1) 0,
 i 9 (.j1 t8) 4,
 i 10 (.bin .neq t7 t9) 15] false)
 (.cond u2
 (.seq (.b6 [i 4 (.mv (.c (.pv (.bool false)))) 0] false)
 .ret)
 .skip))
 (.seq (.seq (.b6 [i 5 (.mv (.c (I 0))) 0] false)
 (.block 0
 (.loop [0,1,5]
 (.seq (.seq (.b6 [i 11 (mv t5) 0,
 i 12 (mv t0) 0,
 i 13 (.j1 z9) 2,
 i 14 (.bin .lss w8 B0) 7] false)
 (.cond D1
 .skip
 (.exit 0)))
 (.seq (.block 1
 (.seq (.b6 [i 17 (mv t0) 0,
 i 18 (mv t5) 0,
 i 19 (.j4 7 E9 I4) 3,
 i 20 (.load true 7 M0) 7,
 i 21 (mv t1) 0,
 i 22 (mv t5) 0,
 i 23 (.j4 7 M6 R8) 48,
 i 24 (.load true 7 V1) 112,
 i 25 (.eqs true [0,1,0,2,0,0,0] O1 X8) 255] true)
 (.cond X6
 (.seq (.b6 [i 4 (.mv (.c (.pv (.bool false)))) 0] false)
 .ret)
 .skip)))
 (.b6 [i 15 (mv t5) 0,
 i 16 (.bin .add G4 (.c (I 1))) 1,
 i 5 (mv G5) 3] false))))))
 (.seq (.b6 [i 4 (.mv (.c (.pv (.bool true)))) 0] false)
 .ret)))⟩
def a0j:n6:=⟨2,18,[.tmp 4],
 .seq (.b6 [i 2 (.box 67 t0) 0,
 i 3 (.box 1 t1) 0,
 i 4 (.mv (.c (I 0))) 0] false)
 (.scope
 (.seq (.b6 [i 5 (.alloc [I 0]) 0,
 iz (.store 1 t5 (.c (I (-1)))) 1] false)
 (.seq .skip
 (.seq (.seq (.b6 [i 8 (.load true 67 t2) 0,
 i 9 (.call (.f F3) [t8]) 1] false)
 (.block 0
 (.rng t9 [10,11]
 (.seq (.b6 [i 6 (mv u2) 0] false)
 (.b6 [i 7 (.alloc [I 0,.emp 7,I 0]) 0,
 iz (.store 3 t7 w8) 1] false))
 (.block 1
 (.seq (.b6 [i 12 (.b0 t7 0) 0,
 i 13 (.load false 1 z9) 1,
 i 14 (.load false 1 t3) 0,
 i 15 (.bin .eql B0 D1) 7] false)
 (.cond G4
 (.seq (.b6 [i 16 (mv t6) 0,
 iz (.store 1 t5 G5) 1] false)
 (.exit 0))
 .skip))))))
 (.seq (.b6 [i 17 (.load false 1 t5) 0,
 i 4 (mv E9) 1] false)
 .ret)))))⟩
def a3x:n6:=⟨0,13,[.tmp 0],
 .seq (.b6 [i 0 (.mv (.c (.emp 7))) 0] false)
 (.seq (.b6 [i 1 (.build z2 [(0,1,.c (I 1)),(1,1,.c (.pv (.str [97,98,99,100,101,102])))]) 0,
 i 2 (.build z0 [(0,1,.c (I 3)),(2,1,.c (I 1))]) 0,
 i 3 (.build z0 [(0,1,.c (I 6)),(5,1,.c (I 2)),(6,1,.c (I 2))]) 0,
 i 4 (.build z0 []) 0,
 i 5 (.O2 7 3 z0 [(0,t2),(1,t3),(2,t4)]) 14,
 i 6 (.build z2 [(0,1,.c (I 2)),(2,1,t5)]) 30,
 i 7 (.build z0 [(0,1,.c (I 5)),(3,1,.c (.pv (.str [97])))]) 0,
 i 8 (.O2 7 1 z0 [(0,t7)]) 64,
 i 9 (.build z0 [(0,1,.c (I 3)),(2,1,.c (I 7))]) 0,
 i 10 (.O2 7 1 z0 [(0,t9)]) 256,
 i 11 (.build z2 [(0,1,.c (I 3)),(5,1,.c (I 2)),(3,1,t8),(4,1,u2)]) 960,
 i 12 (.O2 7 3 z2 [(0,t1),(1,t6),(2,w8)]) 2047,
 i 0 (mv z9) 4095] false)
 .ret)⟩
def a6L:n6:=⟨3,11,[.cell 6 true 7],
 .seq (.b6 [i 6 (.alloc z0) 0] false)
 (.seq (.b6 [i 7 (mv t0) 0,
 i 8 (mv t1) 0,
 i 9 (mv t2) 0,
 i 10 (.build z0 [(0,1,.c (I 6)),(4,1,t7),(5,1,t8),(6,1,t9)]) 7,
 iz (.store 7 t6 u2) 15] false)
 .ret)⟩
def a5K:n6:=⟨1,5,[.cell 2 true 7],
 .seq (.b6 [i 2 (.alloc z0) 0] false)
 (.seq (.b6 [i 3 (mv t0) 0,
 i 4 (.build z0 [(0,1,.c (I 5)),(3,1,t3)]) 1,
 iz (.store 7 t2 t4) 3] false)
 .ret)⟩
def a0I:n6:=⟨2,74,[.tmp 4],
 .seq (.b6 [i 2 (.box 1 t0) 0,
 i 3 (.box 7 t1) 0,
 i 4 (.mv (.c (.pv (.bool false)))) 0] false)
 (.seq (.b6 [i 7 (.b0 t3 2) 0,
 i 8 (.load false 1 t7) 1,
 i 9 (.j1 t8) 3,
 i 10 (.b0 t3 3) 0,
 i 11 (.load false 1 u2) 8,
 i 12 (.j1 w8) 24,
 i 13 (.b0 t3 4) 0,
 i 14 (.load false 1 B0) 64,
 i 15 (.j1 D1) 192,
 i 16 (.bin .add z9 G4) 504,
 i 5 (mv t9) 7,
 i 6 (mv G5) 2047] false)
 (.seq (.seq (.b6 [i 17 (.b0 t3 0) 0,
 i 18 (.load false 1 E9) 1] false)
 (.block 0
 (.seq (.b6 [i 20 (.bin .eql I4 (.c (I 1))) 0,
 i 19 (mv O1) 1] false)
 (.cond M0
 (.seq (.b6 [i 21 (mv t5) 0,
 i 22 (mv t6) 0,
 i 23 (.bin .add M6 R8) 3,
 i 24 (.bin .eql V1 (.c (I 0))) 7,
 i 25 (mv X8) 15,
 ig 26 (.b0 t3 5) 25 true 31,
 ig 27 (.load false 1 t26) 25 true 63,
 ig 28 (.bin .eql t27 (.c (I 0))) 25 true 127,
 i 29 (.pick X6 t28 (.c (.pv (.bool false)))) 255,
 i 30 (mv t29) 511,
 ig 31 (.b0 t3 6) 30 true 1023,
 ig 32 (.load false 1 t31) 30 true 2047,
 ig 33 (.bin .eql t32 (.c (I 0))) 30 true 4095,
 i 34 (.pick t30 t33 (.c (.pv (.bool false)))) 8191,
 i 4 (mv t34) 16383] false)
 .ret)
 (.seq (.b6 [i 36 (.bin .eql I4 (.c (I 2))) 0,
 i 35 (mv t36) 1] false)
 (.cond t35
 (.seq (.b6 [i 37 (.b0 t3 1) 0,
 i 38 (.load false 1 t37) 1,
 i 39 (.bin .eql t38 (.c (.pv (.str [])))) 3,
 i 40 (mv t39) 7,
 ig 41 (mv t6) 40 true 15,
 ig 42 (.bin .eql t41 (.c (I 0))) 40 true 31,
 i 43 (.pick t40 t42 (.c (.pv (.bool false)))) 63,
 i 44 (mv t43) 127,
 ig 45 (.b0 t3 5) 44 true 255,
 ig 46 (.load false 1 t45) 44 true 511,
 ig 47 (.bin .eql t46 (.c (I 0))) 44 true 1023,
 i 48 (.pick t44 t47 (.c (.pv (.bool false)))) 2047,
 i 49 (mv t48) 4095,
 ig 50 (.b0 t3 6) 49 true 8191,
 ig 51 (.load false 1 t50) 49 true 16383,
 ig 52 (.bin .eql t51 (.c (I 0))) 49 true 32767,
 i 53 (.pick t49 t52 (.c (.pv (.bool false)))) 65535,
 i 4 (mv t53) 131071] false)
 .ret)
 (.seq (.b6 [i 55 (.bin .eql I4 (.c (I 3))) 0,
 i 54 (mv t55) 1] false)
 (.cond t54
 (.seq (.b6 [i 56 (.b0 t3 1) 0,
 i 57 (.load false 1 t56) 1,
 i 58 (.bin .eql t57 (.c (.pv (.str [])))) 3,
 i 59 (mv t58) 7,
 ig 60 (mv t5) 59 true 15,
 ig 61 (.bin .eql t60 (.c (I 0))) 59 true 31,
 i 62 (.pick t59 t61 (.c (.pv (.bool false)))) 63,
 i 63 (mv t62) 127,
 ig 64 (.b0 t3 6) 63 true 255,
 ig 65 (.load false 1 t64) 63 true 511,
 ig 66 (.bin .eql t65 (.c (I 0))) 63 true 1023,
 i 67 (.pick t63 t66 (.c (.pv (.bool false)))) 2047,
 i 4 (mv t67) 4095] false)
 .ret)
 (.seq (.b6 [i 69 (.bin .eql I4 (.c (I 4))) 0,
 i 68 (mv t69) 1] false)
 (.cond t68
 (.seq (.b6 [i 70 (mv t5) 0,
 i 71 (mv t6) 0,
 i 72 (.bin .add t70 t71) 3,
 i 73 (.bin .eql t72 (.c (I 0))) 7,
 i 4 (mv t73) 15] false)
 .ret)
 .skip))))))))))
 (.seq (.b6 [i 4 (.mv (.c (.pv (.bool false)))) 0] false)
 .ret)))⟩
def T8:n6:=⟨2,73,[.tmp 4],
 .seq (.b6 [i 2 (.box 1 t0) 0,
 i 3 (.box 7 t1) 0,
 i 4 (.mv (.c (.pv (.bool false)))) 0] false)
 (.seq (.seq (.b6 [i 5 (.b0 t3 0) 0,
 i 6 (.load false 1 t5) 1] false)
 (.block 0
 (.seq (.b6 [i 8 (.bin .eql t6 (.c (I 1))) 0,
 i 7 (mv t8) 1] false)
 (.cond t7
 (.seq (.b6 [i 9 (.b0 t3 1) 0,
 i 10 (.load false 1 t9) 1,
 i 11 (.J0 u2) 3,
 i 12 (.bin .leq w8 (.c (I 1000))) 7,
 i 4 (mv z9) 15] false)
 .ret)
 (.seq (.b6 [i 14 (.bin .eql t6 (.c (I 2))) 0,
 i 13 (mv D1) 1] false)
 (.cond B0
 (.seq (.b6 [i 15 (.b0 t3 2) 0,
 i 16 (.load false 1 G4) 1,
 i 17 (.j1 G5) 3,
 i 18 (.bin .leq E9 (.c (I 1000))) 7,
 i 4 (mv I4) 15] false)
 .ret)
 (.seq (.b6 [i 20 (.bin .eql t6 (.c (I 3))) 0,
 i 19 (mv O1) 1] false)
 (.cond M0
 (.seq (.b6 [i 21 (.b0 t3 5) 0,
 i 22 (.load false 1 M6) 1,
 i 23 (.bin .geq R8 (.c (I 0))) 3,
 i 24 (mv V1) 7,
 ig 25 (.b0 t3 5) 24 true 15,
 ig 26 (.load false 1 X6) 24 true 31,
 ig 27 (.bin .leq t26 (.c (I 200))) 24 true 63,
 i 28 (.pick X8 t27 (.c (.pv (.bool false)))) 127,
 i 29 (mv t28) 255,
 ig 30 (.b0 t3 3) 29 true 511,
 ig 31 (.load false 1 t30) 29 true 1023,
 ig 32 (.j1 t31) 29 true 2047,
 ig 33 (.b0 t3 4) 29 true 511,
 ig 34 (.load false 1 t33) 29 true 4607,
 ig 35 (.j1 t34) 29 true 12799,
 ig 36 (.bin .eql t32 t35) 29 true 32767,
 i 37 (.pick t29 t36 (.c (.pv (.bool false)))) 65535,
 i 38 (mv t37) 131071,
 ig 39 (.b0 t3 3) 38 true 262143,
 ig 40 (.load false 1 t39) 38 true 524287,
 ig 41 (.j1 t40) 38 true 1048575,
 ig 42 (.b0 t3 5) 38 true 262143,
 ig 43 (.load false 1 t42) 38 true 2359295,
 ig 44 (.bin .leq t41 t43) 38 true 8388607,
 i 45 (.pick t38 t44 (.c (.pv (.bool false)))) 16777215,
 i 4 (mv t45) 33554431] false)
 .ret)
 .skip))))))))
 (.seq (.b6 [i 46 (.b0 t3 1) 0,
 i 47 (.load false 1 t46) 1,
 i 48 (.J0 t47) 3,
 i 49 (.bin .leq t48 (.c (I 4000))) 7,
 i 50 (mv t49) 15,
 ig 51 (.b0 t3 6) 50 true 31,
 ig 52 (.load false 1 t51) 50 true 63,
 ig 53 (.bin .geq t52 (.c (I 0))) 50 true 127,
 i 54 (.pick t50 t53 (.c (.pv (.bool false)))) 255,
 i 55 (mv t54) 511,
 ig 56 (.b0 t3 6) 55 true 1023,
 ig 57 (.load false 1 t56) 55 true 2047,
 ig 58 (.b0 t3 1) 55 true 1023,
 ig 59 (.load false 1 t58) 55 true 5119,
 ig 60 (.J0 t59) 55 true 13311,
 ig 61 (.bin .leq t57 t60) 55 true 32767,
 i 62 (.pick t55 t61 (.c (.pv (.bool false)))) 65535,
 i 63 (mv t62) 131071,
 ig 64 (.b0 t3 5) 63 true 262143,
 ig 65 (.load false 1 t64) 63 true 524287,
 ig 66 (.bin .eql t65 (.c (I 0))) 63 true 1048575,
 ig 67 (mv t66) 63 true 2097151,
 ig 68 (.b0 t3 5) 67 false 4194303,
 ig 69 (.load false 1 t68) 67 false 8388607,
 ig 70 (.bin .eql t69 (.c (I 1))) 67 false 16777215,
 ig 71 (.pick t67 (.c (.pv (.bool true))) t70) 63 true 33554431,
 i 72 (.pick t63 t71 (.c (.pv (.bool false)))) 67108863,
 i 4 (mv t72) 134217727] false)
 .ret))⟩
def a0g:n6:=⟨2,47,[.cell 4 false 1],
 .seq (.b6 [i 2 (.box 1 t0) 0,
 i 3 (.box 7 t1) 0,
 i 4 (.alloc [.pv (.bool false)]) 0] false)
 (.seq (.seq (.b6 [i 10 (.load true 7 t3) 0,
 i 11 (.call (.f N6) [u2]) 1] false)
 (.block 0
 (.rng w8 [12]
 (.b6 [i 5 (.alloc z0) 0,
 iz (.store 7 t5 z9) 1] false)
 (.block 1
 (.seq (.b6 [i 13 (.b0 t2 0) 0,
 i 14 (.load false 1 B0) 1,
 i 15 (.load true 7 t5) 0,
 i 16 (.call (.f A6) [D1,G4]) 7,
 i 17 (.not G5) 15] false)
 (.cond E9
 (.seq (.b6 [iz (.store 1 t4 (.c (.pv (.bool false)))) 0] false)
 .ret)
 .skip))))))
 (.seq (.seq (.b6 [i 18 (.b0 t3 3) 0,
 i 19 (.load false 1 I4) 1,
 i 20 (.j1 M0) 3,
 i 21 (.mv (.c (I 0))) 0] false)
 (.block 2
 (.loop [3,4,19,20,21]
 (.seq (.b6 [i 22 (.bin .lss M6 O1) 0] false)
 (.seq (.cond R8
 .skip
 (.exit 2))
 (.seq (.block 3
 (.seq (.b6 [i 23 (mv M6) 0,
 i 24 (.j4 7 M0 M6) 0,
 i 25 (.load true 7 X8) 2,
 i 7 (.alloc z0) 0,
 i 6 (mv V1) 15,
 iz (.store 7 t7 X6) 31] false)
 (.seq (.b6 [i 27 (.load true 7 t7) 0,
 i 28 (.call (.f P9) [t27]) 1,
 i 26 (mv t28) 3,
 i 29 (.extract t26 0) 7,
 i 30 (.extract t26 1) 7,
 i 8 (.alloc z0) 0,
 iz (.store 7 t8 t29) 47,
 i 9 (mv t30) 127] false)
 (.seq (.b6 [i 31 (mv t9) 0,
 i 32 (.bin .neq t31 (.c (I 0))) 1,
 i 33 (mv t32) 3,
 ig 34 (.load true 7 t8) 33 false 7,
 ig 35 (.load true 7 t7) 33 false 7,
 ig 36 (.eqs true [0,1,0,2,0,0,0] t34 t35) 33 false 31,
 i 37 (.pick t33 (.c (.pv (.bool true))) t36) 63,
 i 38 (mv t37) 127,
 ig 39 (.b0 t3 3) 38 false 255,
 ig 40 (.load false 1 t39) 38 false 511,
 ig 41 (mv t6) 38 false 255,
 ig 42 (.slice 7 t40 none (some t41) none) 38 false 2047,
 ig 43 (.load true 7 t7) 38 false 255,
 ig 44 (.call (.f C4) [t42,t43]) 38 false 8191,
 i 45 (.pick t38 (.c (.pv (.bool true))) t44) 16383] true)
 (.cond t45
 (.seq (.b6 [iz (.store 1 t4 (.c (.pv (.bool false)))) 0] false)
 .ret)
 .skip)))))
 (.b6 [i 46 (.bin .add M6 (.c (I 1))) 0,
 i 21 (mv t46) 1] false)))))))
 (.seq (.b6 [iz (.store 1 t4 (.c (.pv (.bool true)))) 0] false)
 .ret)))⟩
def T9:n6:=⟨1,30,[.tmp 2],
 .seq (.b6 [i 1 (.box 7 t0) 0,
 i 2 (.mv (.c (I 0))) 0] false)
 (.scope
 (.seq (.seq (.b6 [i 7 (.b0 t1 0) 0,
 i 8 (.load false 1 t7) 1,
 i 9 (.bin .lss t8 (.c (I 0))) 3,
 i 10 (mv t9) 7,
 ig 11 (.b0 t1 0) 10 false 15,
 ig 12 (.load false 1 w8) 10 false 31,
 ig 13 (.bin .geq z9 (.c (I 13))) 10 false 63,
 i 14 (.pick u2 (.c (.pv (.bool true))) B0) 127] false)
 (.cond D1
 (.seq (.b6 [i 2 (.mv (.c (I 200))) 0] false)
 .ret)
 .skip))
 (.seq (.b6 [i 15 (.call (.f H5) []) 0,
 i 16 (.b0 t1 0) 0,
 i 17 (.load false 1 G5) 2,
 i 18 (.index true 13 6 G4 E9) 7,
 i 3 (.alloc [.pv (.str []),I 0,I 0,I 0,I 0,I 0]) 0,
 iz (.store 6 t3 I4) 31] true)
 (.seq (.b6 [i 4 (.mv (.c (I 0))) 0] false)
 (.seq .skip
 (.seq (.seq (.b6 [i 19 (.build [.pv .nilFunc,.pv .nilFunc,.pv .nilFunc] [(0,1,.f r9),(1,1,.f u9),(2,1,.f n7)]) 0,
 i 20 (.mv (.c (I 0))) 0] false)
 (.block 0
 (.loop [1,3,4,19,20]
 (.seq (.b6 [i 21 (.bin .lss O1 (.c (I 3))) 0] false)
 (.seq (.cond M6
 .skip
 (.exit 0))
 (.seq (.block 1
 (.seq (.b6 [i 22 (.index false 3 1 M0 O1) 0,
 i 6 (mv R8) 1] false)
 (.seq (.b6 [i 23 (mv t6) 0,
 i 24 (.load true 6 t3) 0,
 i 25 (.load true 7 t1) 0,
 i 26 (.call V1 [X8,X6]) 7,
 i 27 (.not t26) 15] false)
 (.cond t27
 (.seq (.b6 [i 4 (.mv (.c (I 200))) 0] false)
 (.exit 0))
 .skip))))
 (.b6 [i 28 (.bin .add O1 (.c (I 1))) 0,
 i 20 (mv t28) 1] false)))))))
 (.seq (.b6 [i 29 (mv t4) 0,
 i 2 (mv t29) 1] false)
 .ret)))))))⟩
def Q7:n6:=⟨1,6,[.tmp 2],
 .seq (.b6 [i 2 (.mv (.c (I 0))) 0] false)
 (.seq (.b6 [i 3 (.build [I 0,I 0,I 0,I 0,I 0,I 0,I 0,I 0,I 0,I 0,I 0,I 0,I 0,I 0] [(6,1,.c (I 1)),(7,1,.c (I 2)),(8,1,.c (I 2)),(9,1,.c (I 3)),(11,1,.c (I 4)),(13,1,.c (I 0))]) 0,
 i 4 (mv t0) 0,
 i 5 (.index false 14 1 t3 t4) 3,
 i 2 (mv t5) 7] false)
 .ret)⟩
def X9:n6:=⟨1,12,[.tmp 2],
 .seq (.b6 [i 1 (.box 7 t0) 0,
 i 2 (.mv (.c (I 0))) 0] false)
 (.seq (.seq (.b6 [i 3 (.b0 t1 0) 0,
 i 4 (.load false 1 t3) 1,
 i 5 (.bin .eql t4 (.c (I 1))) 3] false)
 (.cond t5
 (.seq (.b6 [i 6 (.b0 t1 1) 0,
 i 7 (.load false 1 t6) 1,
 i 8 (.J0 t7) 3,
 i 2 (mv t8) 7] false)
 .ret)
 .skip))
 (.seq (.b6 [i 9 (.b0 t1 2) 0,
 i 10 (.load false 1 t9) 1,
 i 11 (.j1 u2) 3,
 i 2 (mv w8) 7] false)
 .ret))⟩
def a4a:n6:=⟨1,26,[.tmp 2],
 .seq (.b6 [i 1 (.box 7 t0) 0,
 i 2 (.mv (.c (.pv (.bool false)))) 0] false)
 (.seq (.b6 [i 3 (.b0 t1 0) 0,
 i 4 (.load false 1 t3) 1,
 i 5 (.bin .eql t4 (.c (I 6))) 3,
 i 6 (mv t5) 7,
 ig 7 (.b0 t1 0) 6 false 15,
 ig 8 (.load false 1 t7) 6 false 31,
 ig 9 (.bin .eql t8 (.c (I 7))) 6 false 63,
 i 10 (.pick t6 (.c (.pv (.bool true))) t9) 127,
 i 11 (mv u2) 255,
 ig 12 (.b0 t1 0) 11 false 511,
 ig 13 (.load false 1 z9) 11 false 1023,
 ig 14 (.bin .eql B0 (.c (I 8))) 11 false 2047,
 i 15 (.pick w8 (.c (.pv (.bool true))) D1) 4095,
 i 16 (mv G4) 8191,
 ig 17 (.b0 t1 0) 16 false 16383,
 ig 18 (.load false 1 E9) 16 false 32767,
 ig 19 (.bin .eql I4 (.c (I 9))) 16 false 65535,
 i 20 (.pick G5 (.c (.pv (.bool true))) M0) 131071,
 i 21 (mv O1) 262143,
 ig 22 (.b0 t1 0) 21 false 524287,
 ig 23 (.load false 1 R8) 21 false 1048575,
 ig 24 (.bin .eql V1 (.c (I 11))) 21 false 2097151,
 i 25 (.pick M6 (.c (.pv (.bool true))) X8) 4194303,
 i 2 (mv X6) 8388607] false)
 .ret)⟩
def L4:n6:=⟨1,89,[.tmp 2],
 .seq (.b6 [i 2 (.mv (.c (.emp 7))) 0] false)
 (.seq (.b6 [i 7 (.call (.f m8) [.c (I 200)]) 0,
 i 8 (.call (.f m8) [.c (I 50)]) 1,
 i 9 (.call (.f m8) [.c (I 30)]) 3,
 i 10 (.call (.f m8) [.c (I 12)]) 7,
 i 11 (.call (.f m8) [.c (I 5)]) 15,
 i 12 (.O2 7 5 z2 [(0,t7),(1,t8),(2,t9),(3,u2),(4,w8)]) 31,
 i 3 (mv z9) 63] false)
 (.seq (.seq (.b6 [i 4 (.mv (.c (I 0))) 0] false)
 (.block 0
 (.loop [0,3,4]
 (.seq (.seq (.b6 [i 13 (mv t4) 0,
 i 14 (mv t0) 0,
 i 15 (.j1 D1) 2,
 i 16 (.bin .lss B0 G4) 7,
 i 17 (mv G5) 15,
 ig 18 (mv t4) 17 true 31,
 ig 19 (.bin .lss I4 (.c (I 200))) 17 true 63,
 i 20 (.pick E9 M0 (.c (.pv (.bool false)))) 127] false)
 (.cond O1
 .skip
 (.exit 0)))
 (.seq (.block 1
 (.seq (.b6 [i 23 (mv t3) 0,
 i 24 (mv t3) 0,
 i 25 (.j4 7 X8 (.c (I 0))) 2,
 i 26 (.b0 X6 3) 6,
 i 27 (.load false 1 t26) 14,
 i 28 (mv t0) 0,
 i 29 (mv t4) 0,
 i 30 (.j4 1 t28 t29) 96,
 i 31 (.load false 1 t30) 224,
 i 32 (.call (.f y2) [t31]) 480,
 i 33 (.O2 7 1 z0 [(0,t32)]) 992,
 i 34 (.append 7 64 t27 t33) 2046,
 i 35 (.j4 7 V1 (.c (I 0))) 4095,
 i 36 (.b0 t35 3) 8191,
 iz (.store 1 t36 t34) 16383] true)
 (.b6 [i 37 (mv t3) 0,
 i 38 (mv t3) 0,
 i 39 (.j4 7 t38 (.c (I 0))) 2,
 i 40 (.b0 t39 4) 6,
 i 41 (.load false 1 t40) 14,
 i 42 (mv t0) 0,
 i 43 (mv t4) 0,
 i 44 (.j4 1 t42 t43) 96,
 i 45 (.load false 1 t44) 224,
 i 46 (.build z0 [(0,1,.c (I 10)),(1,1,.c (.pv (.bool true))),(3,1,t45)]) 480,
 i 47 (.O2 7 1 z0 [(0,t46)]) 992,
 i 48 (.append 7 64 t41 t47) 2046,
 i 49 (.j4 7 t37 (.c (I 0))) 4095,
 i 50 (.b0 t49 4) 8191,
 iz (.store 1 t50 t48) 16383] true)))
 (.b6 [i 21 (mv t4) 0,
 i 22 (.bin .add M6 (.c (I 1))) 1,
 i 4 (mv R8) 3] false))))))
 (.seq (.b6 [i 51 (.call (.f C6) []) 0,
 i 5 (mv t51) 1] false)
 (.seq (.seq (.b6 [i 6 (.mv (.c (I 0))) 0] false)
 (.block 2
 (.loop [3,5,6]
 (.seq (.seq (.b6 [i 52 (mv t6) 0,
 i 53 (mv t5) 0,
 i 54 (.j1 t53) 2,
 i 55 (.bin .lss t52 t54) 7] false)
 (.cond t55
 .skip
 (.exit 2)))
 (.seq (.block 3
 (.seq (.b6 [i 58 (mv t3) 0,
 i 59 (mv t3) 0,
 i 60 (.j4 7 t59 (.c (I 4))) 2,
 i 61 (.b0 t60 3) 6,
 i 62 (.load false 1 t61) 14,
 i 63 (mv t5) 0,
 i 64 (mv t6) 0,
 i 65 (.j4 1 t63 t64) 96,
 i 66 (.load false 1 t65) 224,
 i 67 (.call (.f y2) [t66]) 480,
 i 68 (.O2 7 1 z0 [(0,t67)]) 992,
 i 69 (.append 7 64 t62 t68) 2046,
 i 70 (.j4 7 t58 (.c (I 4))) 4095,
 i 71 (.b0 t70 3) 8191,
 iz (.store 1 t71 t69) 16383] true)
 (.seq (.b6 [i 72 (mv t3) 0,
 i 73 (mv t3) 0,
 i 74 (.j4 7 t73 (.c (I 4))) 2,
 i 75 (.b0 t74 4) 6,
 i 76 (.load false 1 t75) 14,
 i 77 (mv t6) 0,
 i 78 (.bin .add (.c (I 5)) t77) 32,
 i 79 (.build z0 [(0,1,.c (I 9)),(4,1,t78)]) 96,
 i 80 (.O2 7 1 z0 [(0,t79)]) 224,
 i 81 (.append 7 64 t76 t80) 510,
 i 82 (.j4 7 t72 (.c (I 4))) 1023,
 i 83 (.b0 t82 4) 2047,
 iz (.store 1 t83 t81) 4095] false)
 (.b6 [i 84 (mv t3) 0,
 i 85 (.call (.f m8) [.c (I 10)]) 0,
 i 86 (.O2 7 1 z2 [(0,t85)]) 2,
 i 87 (.append 7 112 t84 t86) 7,
 i 3 (mv t87) 15] false))))
 (.b6 [i 56 (mv t6) 0,
 i 57 (.bin .add t56 (.c (I 1))) 1,
 i 6 (mv t57) 3] false))))))
 (.seq (.b6 [i 88 (mv t3) 0,
 i 2 (mv t88) 1] false)
 .ret)))))⟩
def a1t:n6:=⟨2,42,[.tmp 4,.tmp 5],
 .seq (.b6 [i 2 (.box 7 t0) 0,
 i 3 (.box 7 t1) 0,
 i 4 (.mv (.c (I 0))) 0,
 i 5 (.mv (.c (I 0))) 4] false)
 (.seq (.seq (.b6 [i 9 (.load true 7 t2) 0,
 i 10 (.call (.f o4) [t9]) 1,
 i 11 (.bin .neq u2 (.c (I 0))) 3,
 i 12 (mv w8) 7,
 ig 13 (.load true 7 t3) 12 false 15,
 ig 14 (.call (.f o4) [B0]) 12 false 31,
 ig 15 (.bin .neq D1 (.c (I 0))) 12 false 63,
 i 16 (.pick z9 (.c (.pv (.bool true))) G4) 127] false)
 (.cond G5
 (.seq (.b6 [i 4 (.mv (.c (I 0))) 0,
 i 5 (.mv (.c (I 200))) 1] false)
 .ret)
 .skip))
 (.seq (.b6 [i 18 (.load true 7 t2) 0,
 i 19 (.call (.f E0) [I4]) 1,
 i 17 (mv M0) 3,
 i 20 (.extract E9 0) 7,
 i 21 (.extract E9 1) 7,
 i 6 (mv O1) 15,
 i 7 (mv M6) 63] false)
 (.seq (.seq (.b6 [i 22 (mv t7) 0,
 i 23 (.bin .neq R8 (.c (I 0))) 1] false)
 (.cond V1
 (.seq (.b6 [i 24 (mv t7) 0,
 i 4 (.mv (.c (I 0))) 0,
 i 5 (mv X8) 3] false)
 .ret)
 .skip))
 (.seq (.b6 [i 26 (.load true 7 t3) 0,
 i 27 (.call (.f E0) [t26]) 1,
 i 25 (mv t27) 3,
 i 28 (.extract X6 0) 7,
 i 29 (.extract X6 1) 7,
 i 8 (mv t28) 15,
 i 7 (mv t29) 63] false)
 (.seq (.block 0
 (.seq (.b6 [i 31 (mv t7) 0,
 i 32 (.bin .neq t31 (.c (I 0))) 1,
 i 30 (mv t32) 3] false)
 (.cond t30
 (.seq (.b6 [i 33 (mv t7) 0,
 i 4 (.mv (.c (I 0))) 0,
 i 5 (mv t33) 3] false)
 .ret)
 (.seq (.b6 [i 35 (mv t6) 0,
 i 36 (mv t8) 0,
 i 37 (.bin .lss t35 t36) 3,
 i 34 (mv t37) 7] false)
 (.cond t34
 (.seq (.b6 [i 4 (.mv (.c (I (-1)))) 0,
 i 5 (.mv (.c (I 0))) 1] false)
 .ret)
 (.seq (.b6 [i 39 (mv t6) 0,
 i 40 (mv t8) 0,
 i 41 (.bin .gtr t39 t40) 3,
 i 38 (mv t41) 7] false)
 (.cond t38
 (.seq (.b6 [i 4 (.mv (.c (I 1))) 0,
 i 5 (.mv (.c (I 0))) 1] false)
 .ret)
 .skip)))))))
 (.seq (.b6 [i 4 (.mv (.c (I 0))) 0,
 i 5 (.mv (.c (I 0))) 1] false)
 .ret))))))⟩
def a4w:n6:=⟨2,22,[.tmp 4,.tmp 5],
 .seq (.b6 [i 3 (.box 7 t1) 0,
 i 4 (.mv (.c (.pv (.str [])))) 0,
 i 5 (.mv (.c (.pv (.bool false)))) 2] false)
 (.seq (.seq (.b6 [i 8 (.b0 t3 0) 0,
 i 9 (.load false 1 t8) 1,
 i 10 (.bin .eql t9 (.c (I 5))) 3] false)
 (.cond u2
 (.seq (.b6 [i 11 (.b0 t3 3) 0,
 i 12 (.load false 1 w8) 1,
 i 4 (mv z9) 3,
 i 5 (.mv (.c (.pv (.bool true)))) 7] false)
 .ret)
 .skip))
 (.seq (.b6 [i 14 (mv t0) 0,
 i 15 (.load true 7 t3) 0,
 i 16 (.call (.f P7) [D1,G4]) 3,
 i 13 (mv G5) 7,
 i 17 (.extract B0 0) 15,
 i 18 (.extract B0 1) 15,
 i 6 (mv E9) 31,
 i 7 (mv I4) 127] false)
 (.seq (.b6 [i 19 (mv t6) 0,
 i 20 (mv t7) 0,
 i 21 (.bin .eql O1 (.c (I 0))) 2,
 i 4 (mv M0) 1,
 i 5 (mv M6) 15] false)
 .ret)))⟩
def a0H:n6:=⟨4,37,[],
 .seq (.b6 [i 4 (.box 7 t0) 0] false)
 (.seq (.seq (.b6 [i 6 (.load false 1 t1) 0,
 i 7 (.load true 7 t4) 0,
 i 8 (.call (.f A6) [t6,t7]) 3,
 i 9 (.not t8) 7,
 i 10 (mv t9) 15,
 ig 11 (.b0 t4 0) 10 false 31,
 ig 12 (.load false 1 w8) 10 false 63,
 ig 13 (.call (.f B5) [z9]) 10 false 127,
 ig 14 (.bin .eql B0 (.c (I 0))) 10 false 255,
 i 15 (.pick u2 (.c (.pv (.bool true))) D1) 511,
 i 16 (mv G4) 1023,
 ig 17 (.load false 1 t2) 16 false 2047,
 ig 18 (.b0 t4 4) 16 false 2047,
 ig 19 (.load false 1 I4) 16 false 6143,
 ig 20 (.j4 1 E9 M0) 16 false 16383,
 ig 21 (.load false 1 O1) 16 false 32767,
 i 22 (.pick G5 (.c (.pv (.bool true))) M6) 65535] false)
 (.cond R8
 .ret
 .skip))
 (.seq (.b6 [i 23 (.load false 1 t2) 0,
 i 24 (.b0 t4 4) 0,
 i 25 (.load false 1 X8) 2,
 i 26 (.j4 1 V1 X6) 7,
 iz (.store 1 t26 (.c (.pv (.bool true)))) 15] false)
 (.seq (.b6 [i 27 (.load false 1 t1) 0,
 i 28 (.b0 t4 4) 0,
 i 29 (.load false 1 t28) 2,
 i 30 (.j4 7 t27 t29) 7,
 i 31 (.load true 7 t30) 15,
 i 32 (.call (.f N6) [t31]) 31] false)
 (.block 0
 (.rng t32 [33]
 (.b6 [i 5 (.alloc z0) 0,
 iz (.store 7 t5 t33) 1] false)
 (.block 1
 (.b6 [i 34 (.load false 1 t3) 0,
 i 35 (.load true 7 t5) 0,
 i 36 (.call t34 [t35]) 3] false)))))))⟩
def a3w:n6:=⟨1,4,[.tmp 2],
 .seq (.b6 [i 1 (.box 7 t0) 0,
 i 2 (.mv (.c (.pv .nilFunc))) 0] false)
 (.seq (.b6 [i 3 (.mkf (.func y0) [] [t1]) 0,
 i 2 (mv t3) 1] false)
 .ret)⟩
def a1M:n6:=⟨1,15,[.cell 2 true 67],
 .seq (.b6 [i 2 (.alloc z1) 0] false)
 (.seq (.b6 [i 4 (.call (.f u6) [.c (.emp 1)]) 0,
 i 5 (.build z2 [(0,1,.c (I 3)),(5,1,.c (I 3))]) 0,
 i 6 (.build z2 [(0,1,.c (I 1)),(1,1,.c (.pv (.str [70,70,111,110,116])))]) 0,
 i 7 (.O2 7 2 z2 [(0,t5),(1,t6)]) 6,
 i 8 (.append 7 112 t4 t7) 15,
 i 3 (mv t8) 31] false)
 (.seq (.b6 [i 9 (mv t3) 0,
 i 10 (.call (.f V7) [.c (I 0)]) 0,
 i 11 (.call (.f V7) [.c (I 1)]) 2,
 i 12 (.O2 7 2 z0 [(0,u2),(1,w8)]) 6,
 i 13 (mv t0) 0,
 i 14 (.build z1 [(2,1,t9),(1,1,z9),(0,1,B0)]) 31,
 iz (.store 67 t2 D1) 63] false)
 .ret))⟩
def b0o:n6:=⟨1,5,[.cell 2 true 7],
 .seq (.b6 [i 2 (.alloc z0) 0] false)
 (.seq (.b6 [i 3 (mv t0) 0,
 i 4 (.build z0 [(0,1,.c (I 9)),(4,1,t3)]) 1,
 iz (.store 7 t2 t4) 3] false)
 .ret)⟩
def a4y:n6:=⟨3,23,[.tmp 6],
 .seq (.b6 [i 3 (.box 67 t0) 0,
 i 6 (.mv (.c (.pv (.bool false)))) 0] false)
 (.seq (.b6 [i 10 (.load true 67 t3) 0,
 i 11 (mv t1) 0,
 i 12 (.call (.f R5) [u2,w8]) 3,
 i 9 (mv z9) 7,
 i 13 (.extract t9 0) 15,
 i 14 (.extract t9 1) 15,
 i 7 (.alloc z1) 0,
 iz (.store 67 t7 B0) 95,
 i 8 (mv D1) 255] false)
 (.seq (.b6 [i 15 (mv t8) 0,
 i 16 (mv t2) 0,
 i 17 (.bin .eql G4 G5) 3,
 i 18 (mv E9) 7,
 ig 19 (.load true 67 t7) 18 true 15,
 ig 20 (.load true 67 t3) 18 true 15,
 ig 21 (.call (.f o5) [M0,O1]) 18 true 63,
 i 22 (.pick I4 M6 (.c (.pv (.bool false)))) 127,
 i 6 (mv R8) 255] false)
 .ret))⟩
def b0p:n6:=⟨1,5,[.cell 2 true 7],
 .seq (.b6 [i 2 (.alloc z0) 0] false)
 (.seq (.b6 [i 3 (mv t0) 0,
 i 4 (.build z0 [(0,1,.c (I 3)),(2,1,t3)]) 1,
 iz (.store 7 t2 t4) 3] false)
 .ret)⟩
def L5:n6:=⟨2,88,[.cell 4 true 29,.tmp 5],
 .seq (.b6 [i 2 (.box 67 t0) 0,
 i 4 (.alloc z3) 0,
 i 5 (.mv (.c (I 0))) 0] false)
 (.seq (.b6 [i 11 (.b0 t2 0) 0,
 i 12 (.load true 67 w8) 1,
 i 13 (mv t1) 0,
 i 14 (.call (.f O6) [z9,B0]) 7,
 i 10 (mv D1) 15,
 i 15 (.extract u2 0) 31,
 i 16 (.extract u2 1) 31,
 i 6 (mv G4) 63,
 i 7 (mv G5) 255] false)
 (.seq (.seq (.b6 [i 17 (mv t7) 0,
 i 18 (.bin .neq E9 (.c (I 0))) 1] false)
 (.cond I4
 (.seq (.b6 [i 19 (.build z3 []) 0,
 i 20 (mv t7) 0,
 iz (.store 29 t4 M0) 1,
 i 5 (mv O1) 7] false)
 .ret)
 .skip))
 (.seq (.b6 [i 21 (mv t6) 0,
 i 22 (mv t1) 0,
 i 23 (.bin .sub R8 (.c (I 1))) 2,
 i 24 (.j4 7 M6 V1) 7,
 i 25 (.load true 7 X8) 15,
 i 8 (.alloc z0) 0,
 iz (.store 7 t8 X6) 63] false)
 (.seq (.seq (.b6 [i 26 (mv t6) 0,
 i 27 (.j4 7 t26 (.c (I 0))) 1,
 i 28 (.b0 t27 0) 3,
 i 29 (.load false 1 t28) 7,
 i 30 (.bin .eql t29 (.c (I 0))) 15,
 i 31 (mv t30) 31,
 ig 32 (.b0 t8 0) 31 false 63,
 ig 33 (.load false 1 t32) 31 false 127,
 ig 34 (.bin .neq t33 (.c (I 5))) 31 false 255,
 ig 35 (mv t34) 31 false 511,
 ig 36 (.b0 t8 0) 35 true 1023,
 ig 37 (.load false 1 t36) 35 true 2047,
 ig 38 (.bin .neq t37 (.c (I 6))) 35 true 4095,
 ig 39 (.pick t35 t38 (.c (.pv (.bool false)))) 31 false 8191,
 i 40 (.pick t31 (.c (.pv (.bool true))) t39) 16383] false)
 (.cond t40
 (.seq (.b6 [i 41 (.build z3 []) 0,
 iz (.store 29 t4 t41) 1,
 i 5 (.mv (.c (I 22))) 3] false)
 .ret)
 .skip))
 (.seq (.b6 [i 42 (mv t6) 0,
 i 43 (.j4 7 t42 (.c (I 1))) 1,
 i 44 (.load true 7 t43) 3,
 i 45 (mv t1) 0,
 i 46 (.build z3 [(7,7,t44),(28,1,t45)]) 15,
 i 9 (.alloc z3) 0,
 iz (.store 29 t9 t46) 63] false)
 (.seq (.seq (.b6 [i 48 (.b0 t2 0) 0,
 i 49 (.b0 t48 2) 1,
 i 50 (.load false 1 t49) 3,
 i 51 (mv t6) 0,
 i 52 (.j4 7 t51 (.c (I 0))) 8,
 i 53 (.load true 7 t52) 24,
 i 54 (.call (.f a0s) [t50,t53]) 63,
 i 47 (mv t54) 127,
 i 55 (.extract t47 0) 255,
 i 56 (.extract t47 1) 255,
 i 57 (.b0 t9 0) 511,
 iz (.store 7 t57 t55) 1535,
 i 7 (mv t56) 4095] true)
 (.seq (.b6 [i 58 (mv t7) 0,
 i 59 (.bin .neq t58 (.c (I 0))) 1] false)
 (.cond t59
 (.seq (.b6 [i 60 (.build z3 []) 0,
 i 61 (mv t7) 0,
 iz (.store 29 t4 t60) 1,
 i 5 (mv t61) 7] false)
 .ret)
 .skip)))
 (.seq (.seq (.b6 [i 63 (.b0 t2 0) 0,
 i 64 (.b0 t63 2) 1,
 i 65 (.load false 1 t64) 3,
 i 66 (.load true 7 t8) 0,
 i 67 (.call (.f a0s) [t65,t66]) 15,
 i 62 (mv t67) 31,
 i 68 (.extract t62 0) 63,
 i 69 (.extract t62 1) 63,
 i 70 (.b0 t9 14) 127,
 iz (.store 7 t70 t68) 383,
 i 7 (mv t69) 1023] false)
 (.seq (.b6 [i 71 (mv t7) 0,
 i 72 (.bin .neq t71 (.c (I 0))) 1] false)
 (.cond t72
 (.seq (.b6 [i 73 (.build z3 []) 0,
 i 74 (mv t7) 0,
 iz (.store 29 t4 t73) 1,
 i 5 (mv t74) 7] false)
 .ret)
 .skip)))
 (.seq (.seq (.b6 [i 76 (.load true 67 t2) 0,
 i 77 (.b0 t9 14) 0,
 i 78 (.load true 7 t77) 2,
 i 79 (.call (.f s7) [t76,t78]) 7,
 i 75 (mv t79) 15,
 i 80 (.extract t75 0) 31,
 i 81 (.extract t75 1) 31,
 i 82 (.b0 t9 21) 63,
 iz (.store 7 t82 t80) 191,
 i 7 (mv t81) 511] false)
 (.seq (.b6 [i 83 (mv t7) 0,
 i 84 (.bin .neq t83 (.c (I 0))) 1] false)
 (.cond t84
 (.seq (.b6 [i 85 (.build z3 []) 0,
 i 86 (mv t7) 0,
 iz (.store 29 t4 t85) 1,
 i 5 (mv t86) 7] false)
 .ret)
 .skip)))
 (.seq (.b6 [i 87 (.load true 29 t9) 0,
 iz (.store 29 t4 t87) 1,
 i 5 (.mv (.c (I 0))) 3] false)
 .ret)))))))))⟩
def Z6:n6:=⟨4,8,[.tmp 6],
 .seq (.b6 [i 4 (.box 1 t0) 0,
 i 5 (.box 1 t1) 0,
 i 6 (.mv (.c (.pv .nilFunc))) 0] false)
 (.seq (.b6 [i 7 (.mkf (.func K9) [] [t2,t4,t3,t5]) 0,
 i 6 (mv t7) 1] false)
 .ret)⟩
def T0:n6:=⟨4,23,[.cell 4 true 67,.tmp 5],
 .seq (.b6 [i 4 (.alloc z1) 0,
 i 5 (.mv (.c (I 0))) 0] false)
 (.seq (.b6 [i 9 (.load false 1 t0) 0,
 i 10 (.load false 1 t1) 0,
 i 11 (.call t9 [u2]) 3,
 i 8 (mv w8) 7,
 i 12 (.extract t8 0) 15,
 i 13 (.extract t8 1) 15,
 i 6 (.alloc z3) 0,
 iz (.store 29 t6 z9) 95,
 i 7 (mv B0) 255] false)
 (.seq (.seq (.b6 [i 14 (mv t7) 0,
 i 15 (.bin .neq D1 (.c (I 0))) 1] false)
 (.cond G4
 (.seq (.b6 [i 16 (.load true 67 t2) 0,
 i 17 (mv t7) 0,
 iz (.store 67 t4 G5) 1,
 i 5 (mv E9) 7] false)
 .ret)
 .skip))
 (.seq (.b6 [i 18 (.load false 1 t3) 0,
 i 19 (.load true 29 t6) 0,
 i 20 (.call I4 [M0]) 3,
 i 21 (.extract O1 0) 7,
 i 22 (.extract O1 1) 7,
 iz (.store 67 t4 M6) 31,
 i 5 (mv R8) 63] false)
 .ret)))⟩
def I5:n6:=⟨2,44,[.cell 4 true 67,.tmp 5],
 .seq (.b6 [i 2 (.box 67 t0) 0,
 i 3 (.box 29 t1) 0,
 i 4 (.alloc z1) 0,
 i 5 (.mv (.c (I 0))) 0] false)
 (.seq (.seq (.b6 [i 8 (.b0 t3 14) 0,
 i 9 (.b0 t8 3) 1,
 i 10 (.load false 1 t9) 3,
 i 11 (.b0 t3 7) 0,
 i 12 (.load true 7 w8) 8,
 i 13 (.call (.f W4) [u2,z9]) 31,
 i 14 (.not B0) 63] false)
 (.cond D1
 (.seq (.b6 [i 15 (.b0 t2 0) 0,
 i 16 (.load true 67 G4) 1,
 iz (.store 67 t4 G5) 3,
 i 5 (.mv (.c (I 22))) 7] false)
 .ret)
 .skip))
 (.seq (.b6 [i 18 (.b0 t2 0) 0,
 i 19 (.b0 I4 2) 1,
 i 20 (.load false 1 M0) 3,
 i 21 (.b0 t3 21) 0,
 i 22 (.load true 7 M6) 8,
 i 23 (.b0 t3 0) 0,
 i 24 (.load true 7 V1) 32,
 i 25 (.b0 t3 7) 0,
 i 26 (.load true 7 X6) 128,
 i 27 (.call (.f P8) [O1,R8,X8,t26]) 511,
 i 17 (mv t27) 1023,
 i 28 (.extract E9 0) 2047,
 i 29 (.extract E9 1) 2047,
 i 6 (mv t28) 4095,
 i 7 (mv t29) 16383] false)
 (.seq (.seq (.b6 [i 30 (mv t7) 0,
 i 31 (.bin .neq t30 (.c (I 0))) 1] false)
 (.cond t31
 (.seq (.b6 [i 32 (.b0 t2 0) 0,
 i 33 (.load true 67 t32) 1,
 i 34 (mv t7) 0,
 iz (.store 67 t4 t33) 3,
 i 5 (mv t34) 15] false)
 .ret)
 .skip))
 (.seq (.b6 [i 35 (.load true 67 t2) 0,
 i 36 (.load true 29 t3) 0,
 i 37 (mv t6) 0,
 i 38 (.b0 t3 7) 0,
 i 39 (.load true 7 t38) 8,
 i 40 (.O2 7 1 z0 [(0,t39)]) 24,
 i 41 (.call (.f p7) [t35,t36,t37,t40]) 63,
 i 42 (.extract t41 0) 127,
 i 43 (.extract t41 1) 127,
 iz (.store 67 t4 t42) 511,
 i 5 (mv t43) 1023] false)
 .ret))))⟩
def I6:n6:=⟨2,32,[.cell 4 true 67,.tmp 5],
 .seq (.b6 [i 2 (.box 67 t0) 0,
 i 3 (.box 29 t1) 0,
 i 4 (.alloc z1) 0,
 i 5 (.mv (.c (I 0))) 0] false)
 (.seq (.b6 [i 9 (.load true 67 t2) 0,
 i 10 (.b0 t3 21) 0,
 i 11 (.load true 7 u2) 2,
 i 12 (.b0 t3 0) 0,
 i 13 (.load true 7 z9) 8,
 i 14 (.call (.f w7) [t9,w8,B0]) 31,
 i 8 (mv D1) 63,
 i 15 (.extract t8 0) 127,
 i 16 (.extract t8 1) 127,
 i 6 (.alloc z0) 0,
 iz (.store 7 t6 G4) 767,
 i 7 (mv G5) 2047] false)
 (.seq (.seq (.b6 [i 17 (mv t7) 0,
 i 18 (.bin .neq E9 (.c (I 0))) 1] false)
 (.cond I4
 (.seq (.b6 [i 19 (.b0 t2 0) 0,
 i 20 (.load true 67 M0) 1,
 i 21 (mv t7) 0,
 iz (.store 67 t4 O1) 3,
 i 5 (mv M6) 15] false)
 .ret)
 .skip))
 (.seq (.b6 [i 22 (.load true 67 t2) 0,
 i 23 (.load true 29 t3) 0,
 i 24 (.b0 t2 0) 0,
 i 25 (.b0 X8 2) 4,
 i 26 (.load false 1 X6) 12,
 i 27 (.load true 7 t6) 0,
 i 28 (.O2 7 1 z0 [(0,t27)]) 32,
 i 29 (.call (.f p7) [R8,V1,t26,t28]) 127,
 i 30 (.extract t29 0) 255,
 i 31 (.extract t29 1) 255,
 iz (.store 67 t4 t30) 1023,
 i 5 (mv t31) 2047] false)
 .ret)))⟩
def I7:n6:=⟨2,30,[.cell 4 true 67,.tmp 5],
 .seq (.b6 [i 2 (.box 67 t0) 0,
 i 3 (.box 29 t1) 0,
 i 4 (.alloc z1) 0,
 i 5 (.mv (.c (I 0))) 0] false)
 (.seq (.b6 [i 9 (.b0 t2 0) 0,
 i 10 (.b0 t9 2) 1,
 i 11 (.load false 1 u2) 3,
 i 12 (.b0 t3 21) 0,
 i 13 (.load true 7 z9) 8,
 i 14 (.b0 t3 0) 0,
 i 15 (.load true 7 D1) 32,
 i 16 (.call (.f a1S) [w8,B0,G4]) 127,
 i 8 (mv G5) 255,
 i 17 (.extract t8 0) 511,
 i 18 (.extract t8 1) 511,
 i 6 (mv E9) 1023,
 i 7 (mv I4) 4095] false)
 (.seq (.seq (.b6 [i 19 (mv t7) 0,
 i 20 (.bin .neq M0 (.c (I 0))) 1] false)
 (.cond O1
 (.seq (.b6 [i 21 (.b0 t2 0) 0,
 i 22 (.load true 67 M6) 1,
 i 23 (mv t7) 0,
 iz (.store 67 t4 R8) 3,
 i 5 (mv V1) 15] false)
 .ret)
 .skip))
 (.seq (.b6 [i 24 (.load true 67 t2) 0,
 i 25 (.load true 29 t3) 0,
 i 26 (mv t6) 0,
 i 27 (.call (.f p7) [X8,X6,t26,.c (.emp 7)]) 7,
 i 28 (.extract t27 0) 15,
 i 29 (.extract t27 1) 15,
 iz (.store 67 t4 t28) 63,
 i 5 (mv t29) 127] false)
 .ret)))⟩
def I8:n6:=⟨2,32,[.cell 4 true 67,.tmp 5],
 .seq (.b6 [i 2 (.box 67 t0) 0,
 i 3 (.box 29 t1) 0,
 i 4 (.alloc z1) 0,
 i 5 (.mv (.c (I 0))) 0] false)
 (.seq (.b6 [i 9 (.build z0 [(0,1,.c (I 2))]) 0,
 i 6 (.alloc z0) 0,
 iz (.store 7 t6 t9) 3] false)
 (.seq (.seq (.b6 [i 11 (.load true 67 t2) 0,
 i 12 (.b0 t3 21) 0,
 i 13 (.load true 7 z9) 2,
 i 14 (.b0 t3 0) 0,
 i 15 (.load true 7 D1) 8,
 i 16 (.call (.f w7) [w8,B0,G4]) 31,
 i 10 (mv G5) 63,
 i 17 (.extract u2 0) 127,
 i 18 (.extract u2 1) 127,
 i 7 (.alloc z0) 0,
 iz (.store 7 t7 E9) 767,
 i 8 (mv I4) 2047] false)
 (.seq (.b6 [i 19 (mv t8) 0,
 i 20 (.bin .eql M0 (.c (I 0))) 1] false)
 (.cond O1
 (.b6 [i 21 (.b0 t6 2) 0,
 iz (.store 1 M6 (.c (I 1))) 1] false)
 .skip)))
 (.seq (.b6 [i 22 (.load true 67 t2) 0,
 i 23 (.load true 29 t3) 0,
 i 24 (.b0 t2 0) 0,
 i 25 (.b0 X8 2) 4,
 i 26 (.load false 1 X6) 12,
 i 27 (.load true 7 t6) 0,
 i 28 (.O2 7 1 z0 [(0,t27)]) 32,
 i 29 (.call (.f p7) [R8,V1,t26,t28]) 127,
 i 30 (.extract t29 0) 255,
 i 31 (.extract t29 1) 255,
 iz (.store 67 t4 t30) 1023,
 i 5 (mv t31) 2047] false)
 .ret)))⟩
def O8:n6:=⟨1,5,[.cell 2 true 7],
 .seq (.b6 [i 2 (.alloc z2) 0] false)
 (.seq (.b6 [i 3 (mv t0) 0,
 i 4 (.build z2 [(0,1,.c (I 3)),(5,1,t3)]) 1,
 iz (.store 7 t2 t4) 3] false)
 .ret)⟩
def a0M:n6:=⟨1,5,[.cell 2 true 7],
 .seq (.b6 [i 2 (.alloc z0) 0] false)
 (.seq (.b6 [i 3 (mv t0) 0,
 i 4 (.build z0 [(0,1,.c (I 5)),(3,1,t3)]) 1,
 iz (.store 7 t2 t4) 3] false)
 .ret)⟩
def Y0:n6:=⟨3,23,[.cell 6 true 8,.tmp 7],
 .seq (.b6 [i 4 (.box 7 t1) 0,
 i 6 (.alloc [.emp 7,I 0,.pv (.bool false),I 0,.pv (.str []),I 0,I 0,I 0]) 0,
 i 7 (.mv (.c (I 0))) 0] false)
 (.seq (.seq (.b6 [i 8 (mv t0) 0,
 i 9 (.load true 7 t4) 0,
 i 10 (.call (.f A6) [t8,t9]) 3,
 i 11 (.not u2) 7] false)
 (.cond w8
 (.seq (.b6 [i 12 (.build [.emp 7,I 0,.pv (.bool false),I 0,.pv (.str []),I 0,I 0,I 0] []) 0,
 iz (.store 8 t6 z9) 1,
 i 7 (.mv (.c (I 2))) 3] false)
 .ret)
 .skip))
 (.seq (.seq (.b6 [i 13 (mv t2) 0,
 i 14 (.b0 t4 0) 0,
 i 15 (.load false 1 D1) 2,
 i 16 (.call (.f z8) [B0,G4]) 7,
 i 17 (.not G5) 15] false)
 (.cond E9
 (.seq (.b6 [i 18 (.build [.emp 7,I 0,.pv (.bool false),I 0,.pv (.str []),I 0,I 0,I 0] []) 0,
 iz (.store 8 t6 I4) 1,
 i 7 (.mv (.c (I 22))) 3] false)
 .ret)
 .skip))
 (.seq (.b6 [i 19 (mv t0) 0,
 i 20 (.build [.emp 7] [(0,1,M0)]) 1,
 i 21 (.load true 7 t4) 0,
 i 22 (.build [.emp 7,I 0,.pv (.bool false),I 0,.pv (.str []),I 0,I 0,I 0] [(0,1,O1),(1,7,M6)]) 7,
 iz (.store 8 t6 R8) 15,
 i 7 (.mv (.c (I 0))) 31] false)
 .ret)))⟩
def V2:n6:=⟨3,25,[.tmp 6],
 .seq (.b6 [i 3 (.box 8 t0) 0,
 i 6 (.mv (.c (I 0))) 0] false)
 (.seq (.seq (.b6 [i 7 (mv t1) 0,
 i 8 (.bin .lss t7 (.c (I 0))) 1,
 i 9 (mv t8) 3,
 ig 10 (mv t1) 9 false 7,
 ig 11 (.b0 t3 1) 9 false 7,
 ig 12 (.b0 w8 6) 9 false 23,
 ig 13 (.load false 1 z9) 9 false 55,
 ig 14 (.bin .gtr u2 B0) 9 false 127,
 i 15 (.pick t9 (.c (.pv (.bool true))) D1) 255,
 i 16 (mv G4) 511,
 ig 17 (mv t2) 16 false 1023,
 ig 18 (.b0 t3 1) 16 false 1023,
 ig 19 (.b0 I4 6) 16 false 3071,
 ig 20 (.load false 1 M0) 16 false 7167,
 ig 21 (mv t1) 16 false 1023,
 ig 22 (.bin .sub O1 M6) 16 false 31743,
 ig 23 (.bin .gtr E9 R8) 16 false 65535,
 i 24 (.pick G5 (.c (.pv (.bool true))) V1) 131071] false)
 (.cond X8
 (.seq (.b6 [i 6 (.mv (.c (I 23))) 0] false)
 .ret)
 .skip))
 (.seq (.b6 [i 6 (.mv (.c (I 0))) 0] false)
 .ret))⟩
def M8:n6:=⟨1,11,[.cell 2 true 7],
 .seq (.b6 [i 1 (.box 8 t0) 0,
 i 2 (.alloc z2) 0] false)
 (.seq (.b6 [i 3 (.b0 t1 0) 0,
 i 4 (.b0 t3 0) 1,
 i 5 (.load false 1 t4) 3,
 i 6 (.b0 t1 1) 0,
 i 7 (.b0 t6 4) 8,
 i 8 (.load false 1 t7) 24,
 i 9 (.j4 7 t5 t8) 63,
 i 10 (.load true 7 t9) 127,
 iz (.store 7 t2 u2) 255] false)
 .ret)⟩
def J7:n6:=⟨3,20,[.tmp 6],
 .seq (.b6 [i 6 (.mv (.c (.emp 1))) 0] false)
 (.seq (.b6 [i 8 (mv t0) 0,
 i 9 (.j1 t8) 1,
 i 10 (.b4w 1 1 [.int .u8 (0)] t9) 3,
 i 7 (mv u2) 7] false)
 (.seq (.b6 [i 11 (mv t7) 0,
 i 12 (mv t0) 0,
 i 13 (.copy 1 w8 z9) 3] false)
 (.seq (.b6 [i 14 (mv t7) 0,
 i 15 (mv t1) 0,
 i 16 (.slice 1 D1 (some G4) none none) 3,
 i 17 (mv t2) 0,
 i 18 (.copy 1 G5 E9) 15] false)
 (.seq (.b6 [i 19 (mv t7) 0,
 i 6 (mv M0) 1] false)
 .ret))))⟩
def M9:n6:=⟨2,23,[.tmp 4],
 .seq (.b6 [i 2 (.box 8 t0) 0,
 i 3 (.box 7 t1) 0,
 i 4 (.mv (.c (.emp 7))) 0] false)
 (.seq (.b6 [i 6 (.b0 t2 0) 0,
 i 7 (.b0 t6 0) 1,
 i 8 (.load false 1 t7) 3,
 i 9 (.j1 t8) 7,
 i 10 (.b4w 7 112 [.int .i64 (0),.str [],.sl 7 [],.sl 7 [],.sl 7 [],.int .i64 (0),.int .i64 (0)] t9) 15,
 i 5 (mv u2) 31] false)
 (.seq (.b6 [i 11 (mv t5) 0,
 i 12 (.b0 t2 0) 0,
 i 13 (.b0 z9 0) 2,
 i 14 (.load false 1 B0) 6,
 i 15 (.copy 7 w8 D1) 15] false)
 (.seq (.b6 [i 16 (mv t5) 0,
 i 17 (.b0 t2 1) 0,
 i 18 (.b0 E9 4) 2,
 i 19 (.load false 1 I4) 6,
 i 20 (.load true 7 t3) 0,
 i 21 (.j4 7 G5 M0) 31,
 iz (.store 7 M6 O1) 63] false)
 (.seq (.b6 [i 22 (mv t5) 0,
 i 4 (mv R8) 1] false)
 .ret))))⟩
def M1:n6:=⟨3,20,[.tmp 6],
 .seq (.b6 [i 6 (.mv (.c (.emp 7))) 0] false)
 (.seq (.b6 [i 8 (mv t0) 0,
 i 9 (.j1 t8) 1,
 i 10 (.b4w 7 64 [.int .i64 (0),.bool false,.int .i64 (0),.str [],.int .i64 (0),.int .i64 (0),.int .i64 (0)] t9) 3,
 i 7 (mv u2) 7] false)
 (.seq (.b6 [i 11 (mv t7) 0,
 i 12 (mv t0) 0,
 i 13 (.copy 7 w8 z9) 3] false)
 (.seq (.b6 [i 14 (mv t7) 0,
 i 15 (mv t1) 0,
 i 16 (.slice 7 D1 (some G4) none none) 3,
 i 17 (mv t2) 0,
 i 18 (.copy 7 G5 E9) 15] false)
 (.seq (.b6 [i 19 (mv t7) 0,
 i 6 (mv M0) 1] false)
 .ret))))⟩
def a2T:n6:=⟨1,37,[.cell 2 true 7,.tmp 3],
 .seq (.b6 [i 1 (.box 7 t0) 0,
 i 2 (.alloc z0) 0,
 i 3 (.mv (.c (I 0))) 0] false)
 (.seq (.seq (.b6 [i 5 (.load true 7 t1) 0,
 i 6 (.call (.f o4) [t5]) 1,
 i 4 (mv t6) 3] false)
 (.seq (.b6 [i 7 (mv t4) 0,
 i 8 (.bin .neq t7 (.c (I 0))) 1] false)
 (.cond t8
 (.seq (.b6 [i 9 (.build z0 []) 0,
 i 10 (mv t4) 0,
 iz (.store 7 t2 t9) 1,
 i 3 (mv u2) 7] false)
 .ret)
 .skip)))
 (.seq (.seq (.b6 [i 11 (.load true 7 t1) 0,
 i 12 (.b0 t1 1) 0,
 i 13 (.load false 1 z9) 2,
 i 14 (.build z0 [(0,1,.c (I 0)),(1,1,B0)]) 6,
 i 15 (.eqs false [0,1,0,2,0,0,0] w8 D1) 15,
 i 16 (mv G4) 31,
 ig 17 (.b0 t1 0) 16 false 63,
 ig 18 (.load false 1 E9) 16 false 127,
 ig 19 (.bin .eql I4 (.c (I 6))) 16 false 255,
 i 20 (.pick G5 (.c (.pv (.bool true))) M0) 511] false)
 (.cond O1
 (.seq (.b6 [i 21 (.build z0 []) 0,
 iz (.store 7 t2 M6) 1,
 i 3 (.mv (.c (I 22))) 3] false)
 .ret)
 .skip))
 (.seq (.seq (.b6 [i 22 (.b0 t1 0) 0,
 i 23 (.load false 1 R8) 1,
 i 24 (.bin .eql V1 (.c (I 4))) 3,
 i 25 (mv X8) 7,
 ig 26 (.b0 t1 2) 25 true 15,
 ig 27 (.load false 1 t26) 25 true 31,
 ig 28 (.bin .rem t27 (.c (I 65536))) 25 true 63,
 ig 29 (.bin .eql t28 (.c (I 0))) 25 true 127,
 i 30 (.pick X6 t29 (.c (.pv (.bool false)))) 255] false)
 (.cond t30
 (.seq (.b6 [i 31 (.load true 7 t1) 0,
 i 32 (.call (.f N8) [t31]) 1,
 i 33 (.extract t32 0) 3,
 i 34 (.extract t32 1) 3,
 iz (.store 7 t2 t33) 15,
 i 3 (mv t34) 31] false)
 .ret)
 .skip))
 (.seq (.b6 [i 35 (.b0 t1 1) 0,
 iz (.store 1 t35 (.c (.pv (.bool false)))) 1] false)
 (.seq (.b6 [i 36 (.load true 7 t1) 0,
 iz (.store 7 t2 t36) 1,
 i 3 (.mv (.c (I 0))) 3] false)
 .ret)))))⟩
def a1O:n6:=⟨2,11,[.cell 4 true 7,.tmp 5],
 .seq (.b6 [i 3 (.box 1 t1) 0,
 i 4 (.alloc z0) 0,
 i 5 (.mv (.c (I 0))) 0] false)
 (.seq (.b6 [i 6 (mv t0) 0,
 i 7 (.mkf (.func Q9) [] [t3]) 0,
 i 8 (.call (.f E1) [t6,t7]) 3,
 i 9 (.extract t8 0) 7,
 i 10 (.extract t8 1) 7,
 iz (.store 7 t4 t9) 31,
 i 5 (mv u2) 63] false)
 .ret)⟩
def P2:n6:=⟨2,19,[.tmp 4],
 .seq (.b6 [i 3 (.box 7 t1) 0,
 i 4 (.mv (.c (I 0))) 0] false)
 (.seq (.seq (.b6 [i 6 (mv t0) 0,
 i 7 (.j1 t6) 1,
 i 8 (.mv (.c (I 0))) 0] false)
 (.block 0
 (.loop [0,3,7,8]
 (.seq (.b6 [i 9 (.bin .lss t8 t7) 0] false)
 (.seq (.cond t9
 .skip
 (.exit 0))
 (.seq (.block 1
 (.seq (.b6 [i 10 (mv t8) 0,
 i 5 (mv u2) 1] false)
 (.seq (.b6 [i 11 (.load true 7 t3) 0,
 i 12 (mv t0) 0,
 i 13 (mv t5) 0,
 i 14 (.j4 7 z9 B0) 6,
 i 15 (.load true 7 D1) 14,
 i 16 (.eqs false [0,1,0,2,0,0,0] w8 G4) 31] true)
 (.cond G5
 (.seq (.b6 [i 17 (mv t5) 0,
 i 4 (mv E9) 1] false)
 .ret)
 .skip))))
 (.b6 [i 18 (.bin .add t8 (.c (I 1))) 0,
 i 8 (mv I4) 1] false)))))))
 (.seq (.b6 [i 4 (.mv (.c (I (-1)))) 0] false)
 .ret))⟩
def X3:n6:=⟨3,33,[.tmp 6],
 .seq (.b6 [i 6 (.mv (.c (.emp 7))) 0] false)
 (.seq (.b6 [i 8 (mv t0) 0,
 i 9 (mv t1) 0,
 i 10 (mv t2) 0,
 i 11 (mv t0) 0,
 i 12 (.j1 w8) 8,
 i 13 (.slice 7 t8 (some t9) (some u2) (some z9)) 31] false)
 (.seq (.seq (.b6 [i 14 (mv t1) 0,
 i 15 (mv t2) 0,
 i 16 (.bin .eql D1 G4) 3] false)
 (.cond G5
 (.seq (.b6 [i 17 (mv t0) 0,
 i 6 (mv E9) 1] false)
 .ret)
 .skip))
 (.seq (.b6 [i 18 (mv t0) 0,
 i 19 (.j1 I4) 1,
 i 7 (mv M0) 3] false)
 (.seq (.b6 [i 20 (mv t0) 0,
 i 21 (mv t1) 0,
 i 22 (.slice 7 O1 none (some M6) none) 3,
 i 23 (mv t0) 0,
 i 24 (mv t2) 0,
 i 25 (.slice 7 V1 (some X8) none none) 24,
 i 26 (.append 7 64 R8 X6) 63,
 i 0 (mv t26) 127] true)
 (.seq (.b6 [i 27 (mv t0) 0,
 i 28 (mv t0) 0,
 i 29 (.j1 t28) 2,
 i 30 (mv t7) 0,
 i 31 (.slice 7 t27 (some t29) (some t30) none) 15,
 iz (.clear 7 [.int .i64 (0),.bool false,.int .i64 (0),.str [],.int .i64 (0),.int .i64 (0),.int .i64 (0)] t31) 31] false)
 (.seq (.b6 [i 32 (mv t0) 0,
 i 6 (mv t32) 1] false)
 .ret))))))⟩
def a5M:n6:=⟨3,36,[.tmp 6],
 .seq (.b6 [i 6 (.mv (.c (I 0))) 0] false)
 (.seq (.b6 [i 7 (.mv (.c (.emp 1))) 0] false)
 (.seq (.seq (.b6 [i 8 (.mv (.c (I 0))) 0] false)
 (.block 0
 (.loop [0,1,2,7,8]
 (.seq (.seq (.b6 [i 9 (mv t8) 0,
 i 10 (mv t0) 0,
 i 11 (.j1 u2) 2,
 i 12 (.bin .lss t9 w8) 7] false)
 (.cond z9
 .skip
 (.exit 0)))
 (.seq (.block 1
 (.seq (.b6 [i 15 (mv t0) 0,
 i 16 (mv t8) 0,
 i 17 (.j4 7 G4 G5) 3,
 i 18 (.b0 E9 0) 7,
 i 19 (.load false 1 I4) 15,
 i 20 (mv t1) 0,
 i 21 (.bin .eql M0 O1) 63] false)
 (.cond M6
 (.b6 [i 22 (mv t7) 0,
 i 23 (mv t8) 0,
 i 24 (.O2 1 1 [I 0] [(0,V1)]) 2,
 i 25 (.append 1 8 R8 X8) 7,
 i 7 (mv X6) 15] false)
 .skip)))
 (.b6 [i 13 (mv t8) 0,
 i 14 (.bin .add B0 (.c (I 1))) 1,
 i 8 (mv D1) 3] false))))))
 (.seq (.seq (.b6 [i 26 (mv t7) 0,
 i 27 (.j1 t26) 1,
 i 28 (.bin .eql t27 (.c (I 0))) 3] false)
 (.cond t28
 (.seq (.b6 [i 6 (.mv (.c (I (-1)))) 0] false)
 .ret)
 .skip))
 (.seq (.b6 [i 29 (mv t7) 0,
 i 30 (mv t2) 0,
 i 31 (mv t7) 0,
 i 32 (.j1 t31) 4,
 i 33 (.bin .rem t30 t32) 14,
 i 34 (.j4 1 t29 t33) 31,
 i 35 (.load false 1 t34) 63,
 i 6 (mv t35) 127] false)
 .ret))))⟩
def D7:n6:=⟨2,32,[.cell 4 true 7,.tmp 5],
 .seq (.b6 [i 2 (.box 67 t0) 0,
 i 3 (.box 7 t1) 0,
 i 4 (.alloc z0) 0,
 i 5 (.mv (.c (I 0))) 0] false)
 (.seq (.b6 [i 10 (.b0 t2 0) 0,
 i 11 (.b0 u2 2) 1,
 i 12 (.load false 1 w8) 3,
 i 13 (.build z0 [(0,1,.c (I 9)),(4,1,.c (I 4))]) 0,
 i 14 (.load true 7 t3) 0,
 i 15 (.call (.f U4) [z9,B0,D1]) 31,
 i 9 (mv G4) 63,
 i 16 (.extract t9 0) 127,
 i 17 (.extract t9 1) 127,
 i 18 (.extract t9 2) 127,
 i 6 (.alloc z0) 0,
 iz (.store 7 t6 G5) 1279,
 i 7 (mv E9) 3583,
 i 8 (mv I4) 8191] false)
 (.seq (.seq (.b6 [i 19 (mv t8) 0,
 i 20 (.bin .neq M0 (.c (I 0))) 1,
 i 21 (mv O1) 3,
 ig 22 (mv t7) 21 false 7,
 ig 23 (.not R8) 21 false 15,
 i 24 (.pick M6 (.c (.pv (.bool true))) V1) 31,
 i 25 (mv X8) 63,
 ig 26 (.b0 t6 0) 25 false 127,
 ig 27 (.load false 1 t26) 25 false 255,
 ig 28 (.bin .neq t27 (.c (I 9))) 25 false 511,
 i 29 (.pick X6 (.c (.pv (.bool true))) t28) 1023] false)
 (.cond t29
 (.seq (.b6 [i 30 (.build z0 []) 0,
 iz (.store 7 t4 t30) 1,
 i 5 (.mv (.c (I 24))) 3] false)
 .ret)
 .skip))
 (.seq (.b6 [i 31 (.load true 7 t6) 0,
 iz (.store 7 t4 t31) 1,
 i 5 (.mv (.c (I 0))) 3] false)
 .ret)))⟩
def N1:n6:=⟨3,29,[.cell 6 true 7,.tmp 7],
 .seq (.b6 [i 3 (.box 67 t0) 0,
 i 4 (.box 7 t1) 0,
 i 5 (.box 7 t2) 0,
 i 6 (.alloc z0) 0,
 i 7 (.mv (.c (I 0))) 0] false)
 (.seq (.b6 [i 12 (.b0 t3 0) 0,
 i 13 (.b0 z9 2) 1,
 i 14 (.load false 1 B0) 3,
 i 15 (.load true 7 t4) 0,
 i 16 (.load true 7 t5) 0,
 i 17 (.call (.f U4) [D1,G4,G5]) 31,
 i 11 (mv E9) 63,
 i 18 (.extract w8 0) 127,
 i 19 (.extract w8 1) 127,
 i 20 (.extract w8 2) 127,
 i 8 (.alloc z0) 0,
 iz (.store 7 t8 I4) 1279,
 i 9 (mv M0) 3583,
 i 10 (mv O1) 8191] false)
 (.seq (.seq (.b6 [i 21 (mv u2) 0,
 i 22 (.bin .eql M6 (.c (I 0))) 1,
 i 23 (mv R8) 3,
 ig 24 (mv t9) 23 true 7,
 ig 25 (.not X8) 23 true 15,
 i 26 (.pick V1 X6 (.c (.pv (.bool false)))) 31] false)
 (.cond t26
 (.b6 [i 10 (.mv (.c (I 40))) 0] false)
 .skip))
 (.seq (.b6 [i 27 (.load true 7 t8) 0,
 i 28 (mv u2) 0,
 iz (.store 7 t6 t27) 1,
 i 7 (mv t28) 7] false)
 .ret)))⟩
def a8e:n6:=⟨2,13,[.tmp 4],
 .seq (.b6 [i 2 (.box 7 t0) 0,
 i 4 (.mv (.c (.pv (.bool false)))) 0] false)
 (.seq (.b6 [i 5 (.load true 7 t2) 0,
 i 6 (.call (.f K5) [t5]) 1,
 i 7 (mv t6) 3,
 ig 8 (.b0 t2 4) 7 true 7,
 ig 9 (.load false 1 t8) 7 true 15,
 ig 10 (mv t1) 7 true 7,
 ig 11 (.bin .geq t9 u2) 7 true 63,
 i 12 (.pick t7 w8 (.c (.pv (.bool false)))) 127,
 i 4 (mv z9) 255] false)
 .ret)⟩
def a9f:n6:=⟨3,16,[.tmp 6],
 .seq (.b6 [i 5 (.box 7 t2) 0,
 i 6 (.mv (.c (.emp 7))) 0] false)
 (.seq (.b6 [i 7 (.mv (.c (.emp 7))) 0] false)
 (.seq (.b6 [i 8 (mv t7) 0,
 i 9 (mv t0) 0,
 i 10 (.append 7 112 t8 t9) 3,
 i 7 (mv u2) 7] false)
 (.seq (.b6 [i 11 (mv t7) 0,
 i 12 (mv t1) 0,
 i 13 (.load true 7 t5) 0,
 i 14 (.j4 7 w8 z9) 7,
 iz (.store 7 D1 B0) 15] false)
 (.seq (.b6 [i 15 (mv t7) 0,
 i 6 (mv G4) 1] false)
 .ret))))⟩
def a8c:n6:=⟨2,19,[.tmp 4],
 .seq (.b6 [i 3 (.box 7 t1) 0,
 i 4 (.mv (.c (I 0))) 0] false)
 (.seq (.seq (.b6 [i 5 (.mv (.c (I 0))) 0] false)
 (.block 0
 (.loop [0,3,5]
 (.seq (.seq (.b6 [i 6 (mv t5) 0,
 i 7 (mv t0) 0,
 i 8 (.j1 t7) 2,
 i 9 (.bin .lss t6 t8) 7] false)
 (.cond t9
 .skip
 (.exit 0)))
 (.seq (.block 1
 (.seq (.b6 [i 12 (mv t0) 0,
 i 13 (mv t5) 0,
 i 14 (.j4 7 z9 B0) 3,
 i 15 (.load true 7 D1) 7,
 i 16 (.load true 7 t3) 0,
 i 17 (.eqs false [0,1,0,2,0,0,0] G4 G5) 31] true)
 (.cond E9
 (.seq (.b6 [i 18 (mv t5) 0,
 i 4 (mv I4) 1] false)
 .ret)
 .skip)))
 (.b6 [i 10 (mv t5) 0,
 i 11 (.bin .add u2 (.c (I 1))) 1,
 i 5 (mv w8) 3] false))))))
 (.seq (.b6 [i 4 (.mv (.c (I (-1)))) 0] false)
 .ret))⟩
def a2W:n6:=⟨2,27,[.cell 4 true 67,.tmp 5],
 .seq (.b6 [i 2 (.box 67 t0) 0,
 i 4 (.alloc z1) 0,
 i 5 (.mv (.c (I 0))) 0] false)
 (.seq (.seq (.b6 [i 6 (.b0 t2 0) 0,
 i 7 (.load false 1 t6) 1,
 i 8 (.j1 t7) 3,
 i 9 (mv t1) 0,
 i 10 (.j1 t9) 8,
 i 11 (.bin .add t8 u2) 31,
 i 12 (.bin .gtr w8 (.c (I 100))) 63] false)
 (.cond z9
 (.seq (.b6 [i 13 (.load true 67 t2) 0,
 iz (.store 67 t4 B0) 1,
 i 5 (.mv (.c (I 21))) 3] false)
 .ret)
 .skip))
 (.seq (.b6 [i 14 (.b0 t2 0) 0,
 i 15 (.load false 1 D1) 1,
 i 16 (.b0 t2 0) 0,
 i 17 (.load false 1 G5) 4,
 i 18 (.j1 E9) 12,
 i 19 (.b0 t2 0) 0,
 i 20 (.load false 1 M0) 32,
 i 21 (.j1 O1) 96,
 i 22 (.slice 7 G4 none (some I4) (some M6)) 255,
 i 23 (mv t1) 0,
 i 24 (.append 7 64 R8 V1) 1023,
 i 25 (.b0 t2 0) 2047,
 iz (.store 1 X6 X8) 4095] false)
 (.seq (.b6 [i 26 (.load true 67 t2) 0,
 iz (.store 67 t4 t26) 1,
 i 5 (.mv (.c (I 0))) 3] false)
 .ret)))⟩
def a4c:n6:=⟨2,27,[.tmp 4,.tmp 5],
 .seq (.b6 [i 2 (.box 67 t0) 0,
 i 4 (.mv (.c (.emp 7))) 0,
 i 5 (.mv (.c (I 0))) 2] false)
 (.seq (.seq (.b6 [i 6 (mv t1) 0,
 i 7 (.bin .lss t6 (.c (I 0))) 1] false)
 (.cond t7
 (.seq (.b6 [i 4 (.mv (.c (.emp 7))) 0,
 i 5 (.mv (.c (I 2))) 1] false)
 .ret)
 .skip))
 (.seq (.seq (.b6 [i 8 (mv t1) 0,
 i 9 (.b0 t2 0) 0,
 i 10 (.load false 1 t9) 2,
 i 11 (.j1 u2) 6,
 i 12 (.bin .gtr t8 w8) 15] false)
 (.cond z9
 (.seq (.b6 [i 4 (.mv (.c (.emp 7))) 0,
 i 5 (.mv (.c (I 20))) 1] false)
 .ret)
 .skip))
 (.seq (.b6 [i 13 (.b0 t2 0) 0,
 i 14 (.load false 1 B0) 1,
 i 15 (.b0 t2 0) 0,
 i 16 (.load false 1 G4) 4,
 i 17 (.j1 G5) 12,
 i 18 (mv t1) 0,
 i 19 (.bin .sub E9 I4) 60,
 i 20 (.b0 t2 0) 0,
 i 21 (.load false 1 O1) 128,
 i 22 (.j1 M6) 384,
 i 23 (.b0 t2 0) 0,
 i 24 (.load false 1 V1) 1024,
 i 25 (.j1 X8) 3072,
 i 26 (.slice 7 D1 (some M0) (some R8) (some X6)) 8191,
 i 4 (mv t26) 16383,
 i 5 (.mv (.c (I 0))) 32767] false)
 .ret)))⟩
def N2:n6:=⟨2,9,[.tmp 3],
 .seq (.b6 [i 2 (.box 7 t0) 0,
 i 3 (.mv (.c (.pv (.bool false)))) 0] false)
 (.seq (.b6 [i 4 (.load true 7 t2) 0,
 i 5 (.b0 t1 1) 0,
 i 6 (.load false 1 t5) 2,
 i 7 (.j1 t6) 6,
 i 8 (.call (.f L0) [t4,t7]) 15,
 i 3 (mv t8) 31] false)
 .ret)⟩
def a2V:n6:=⟨2,30,[.cell 4 true 67,.tmp 5],
 .seq (.b6 [i 2 (.box 67 t0) 0,
 i 4 (.alloc z1) 0,
 i 5 (.mv (.c (I 0))) 0] false)
 (.seq (.seq (.b6 [i 6 (mv t1) 0,
 i 7 (.bin .lss t6 (.c (I 0))) 1] false)
 (.cond t7
 (.seq (.b6 [i 8 (.load true 67 t2) 0,
 iz (.store 67 t4 t8) 1,
 i 5 (.mv (.c (I 2))) 3] false)
 .ret)
 .skip))
 (.seq (.seq (.b6 [i 9 (mv t1) 0,
 i 10 (.b0 t2 0) 0,
 i 11 (.load false 1 u2) 2,
 i 12 (.j1 w8) 6,
 i 13 (.bin .gtr t9 z9) 15] false)
 (.cond B0
 (.seq (.b6 [i 14 (.load true 67 t2) 0,
 iz (.store 67 t4 D1) 1,
 i 5 (.mv (.c (I 20))) 3] false)
 .ret)
 .skip))
 (.seq (.b6 [i 15 (.b0 t2 0) 0,
 i 16 (.load false 1 G4) 1,
 i 17 (.b0 t2 0) 0,
 i 18 (.load false 1 E9) 4,
 i 19 (.j1 I4) 12,
 i 20 (mv t1) 0,
 i 21 (.bin .sub M0 O1) 60,
 i 22 (.b0 t2 0) 0,
 i 23 (.load false 1 R8) 128,
 i 24 (.j1 V1) 384,
 i 25 (mv t1) 0,
 i 26 (.bin .sub X8 X6) 1920,
 i 27 (.slice 7 G5 none (some M6) (some t26)) 4095,
 i 28 (.b0 t2 0) 8191,
 iz (.store 1 t28 t27) 16383] false)
 (.seq (.b6 [i 29 (.load true 67 t2) 0,
 iz (.store 67 t4 t29) 1,
 i 5 (.mv (.c (I 0))) 3] false)
 .ret))))⟩
def a2z:n6:=⟨2,8,[.tmp 4],
 .seq (.b6 [i 4 (.mv (.c (.pv (.bool false)))) 0] false)
 (.seq (.b6 [i 5 (mv t0) 0,
 i 6 (mv t1) 0,
 i 7 (.call (.f y7) [t5,t6]) 3,
 i 4 (mv t7) 7] false)
 .ret)⟩
def X1:n6:=⟨1,4,[.tmp 2],
 .seq (.b6 [i 1 (.box 67 t0) 0,
 i 2 (.mv (.c (.pv .nilFunc))) 0] false)
 (.seq (.b6 [i 3 (.mkf (.func n5) [] [t1]) 0,
 i 2 (mv t3) 1] false)
 .ret)⟩
def S0:n6:=⟨2,9,[.tmp 4],
 .seq (.b6 [i 3 (.box 7 t1) 0,
 i 4 (.mv (.c (.pv (.bool false)))) 0] false)
 (.seq (.b6 [i 5 (mv t0) 0,
 i 6 (.load true 7 t3) 0,
 i 7 (.call (.f u1) [t5,t6]) 3,
 i 8 (.bin .geq t7 (.c (I 0))) 7,
 i 4 (mv t8) 15] false)
 .ret)⟩
def U0:n6:=⟨0,15,[.cell 0 true 78],
 .seq (.b6 [i 0 (.alloc z5) 0] false)
 (.seq (.b6 [i 1 (.build [.pv (.str []),I 0,I 0,I 0,I 0,I 0] [(0,1,.c (.pv (.str [110,117,108,108,116,121,112,101])))]) 0,
 i 2 (.build [.pv (.str []),I 0,I 0,I 0,I 0,I 0] [(0,1,.c (.pv (.str [109,97,114,107,116,121,112,101])))]) 0,
 i 3 (.build [.pv (.str []),I 0,I 0,I 0,I 0,I 0] [(0,1,.c (.pv (.str [98,111,111,108,101,97,110,116,121,112,101]))),(2,1,.c (I 1))]) 0,
 i 4 (.build [.pv (.str []),I 0,I 0,I 0,I 0,I 0] [(0,1,.c (.pv (.str [105,110,116,101,103,101,114,116,121,112,101]))),(1,1,.c (I (-2147483648))),(2,1,.c (I 2147483647))]) 0,
 i 5 (.build [.pv (.str []),I 0,I 0,I 0,I 0,I 0] [(0,1,.c (.pv (.str [114,101,97,108,116,121,112,101]))),(1,1,.c (I (-2147483648))),(2,1,.c (I 2147483648))]) 0,
 i 6 (.build [.pv (.str []),I 0,I 0,I 0,I 0,I 0] [(0,1,.c (.pv (.str [110,97,109,101,116,121,112,101]))),(4,1,.c (I 100))]) 0,
 i 7 (.build [.pv (.str []),I 0,I 0,I 0,I 0,I 0] [(0,1,.c (.pv (.str [115,116,114,105,110,103,116,121,112,101]))),(5,1,.c (I 1))]) 0,
 i 8 (.build [.pv (.str []),I 0,I 0,I 0,I 0,I 0] [(0,1,.c (.pv (.str [97,114,114,97,121,116,121,112,101]))),(5,1,.c (I 2))]) 0,
 i 9 (.build [.pv (.str []),I 0,I 0,I 0,I 0,I 0] [(0,1,.c (.pv (.str [112,97,99,107,101,100,97,114,114,97,121,116,121,112,101]))),(5,1,.c (I 2))]) 0,
 i 10 (.build [.pv (.str []),I 0,I 0,I 0,I 0,I 0] [(0,1,.c (.pv (.str [100,105,99,116,116,121,112,101]))),(5,1,.c (I 3))]) 0,
 i 11 (.build [.pv (.str []),I 0,I 0,I 0,I 0,I 0] [(0,1,.c (.pv (.str [111,112,101,114,97,116,111,114,116,121,112,101]))),(3,1,.c (I 1)),(4,1,.c (I 100))]) 0,
 i 12 (.build [.pv (.str []),I 0,I 0,I 0,I 0,I 0] [(0,1,.c (.pv (.str [102,105,108,101,116,121,112,101]))),(5,1,.c (I 3))]) 0,
 i 13 (.build [.pv (.str []),I 0,I 0,I 0,I 0,I 0] [(0,1,.c (.pv (.str [115,97,118,101,116,121,112,101]))),(1,1,.c (I 1)),(2,1,.c (I 9223372036854775807))]) 0,
 i 14 (.build z5 [(0,6,t1),(6,6,t2),(12,6,t3),(18,6,t4),(24,6,t5),(30,6,t6),(36,6,t7),(42,6,t8),(48,6,t9),(54,6,u2),(60,6,w8),(66,6,z9),(72,6,B0)]) 8191,
 iz (.store 78 t0 D1) 16383] false)
 .ret)⟩
def D6:n6:=⟨2,17,[.tmp 4],
 .seq (.b6 [i 2 (.box 6 t0) 0,
 i 3 (.box 7 t1) 0,
 i 4 (.mv (.c (.pv (.bool false)))) 0] false)
 (.seq (.b6 [i 5 (.b0 t3 2) 0,
 i 6 (.load false 1 t5) 1,
 i 7 (.b0 t2 1) 0,
 i 8 (.load false 1 t7) 4,
 i 9 (.bin .geq t6 t8) 15,
 i 10 (mv t9) 31,
 ig 11 (.b0 t3 2) 10 true 63,
 ig 12 (.load false 1 w8) 10 true 127,
 ig 13 (.b0 t2 2) 10 true 63,
 ig 14 (.load false 1 B0) 10 true 319,
 ig 15 (.bin .leq z9 D1) 10 true 1023,
 i 16 (.pick u2 G4 (.c (.pv (.bool false)))) 2047,
 i 4 (mv G5) 4095] false)
 .ret)⟩
def F0:n6:=⟨2,19,[.tmp 4],
 .seq (.b6 [i 2 (.box 6 t0) 0,
 i 3 (.box 7 t1) 0,
 i 4 (.mv (.c (.pv (.bool false)))) 0] false)
 (.seq (.b6 [i 5 (.b0 t3 3) 0,
 i 6 (.load false 1 t5) 1,
 i 7 (.J0 t6) 3,
 i 8 (.b0 t2 3) 0,
 i 9 (.load false 1 t8) 8,
 i 10 (.bin .geq t7 t9) 31,
 i 11 (mv u2) 63,
 ig 12 (.b0 t3 3) 11 true 127,
 ig 13 (.load false 1 z9) 11 true 255,
 ig 14 (.J0 B0) 11 true 511,
 ig 15 (.b0 t2 4) 11 true 127,
 ig 16 (.load false 1 G4) 11 true 1151,
 ig 17 (.bin .leq D1 G5) 11 true 4095,
 i 18 (.pick w8 E9 (.c (.pv (.bool false)))) 8191,
 i 4 (mv I4) 16383] false)
 .ret)⟩
def A5:n6:=⟨2,57,[.tmp 4],
 .seq (.b6 [i 2 (.box 6 t0) 0,
 i 3 (.box 7 t1) 0,
 i 4 (.mv (.c (.pv (.bool false)))) 0] false)
 (.seq (.seq (.b6 [i 6 (.b0 t2 5) 0,
 i 7 (.load false 1 t6) 1,
 i 8 (.bin .eql t7 (.c (I 0))) 3] false)
 (.cond t8
 (.seq (.b6 [i 9 (.b0 t3 4) 0,
 i 10 (.load false 1 t9) 1,
 i 11 (.bin .eql u2 (.c (I 0))) 3,
 i 12 (mv w8) 7,
 ig 13 (.b0 t3 5) 12 true 15,
 ig 14 (.load false 1 B0) 12 true 31,
 ig 15 (.bin .eql D1 (.c (I 0))) 12 true 63,
 i 16 (.pick z9 G4 (.c (.pv (.bool false)))) 127,
 i 17 (mv G5) 255,
 ig 18 (.b0 t3 6) 17 true 511,
 ig 19 (.load false 1 I4) 17 true 1023,
 ig 20 (.bin .eql M0 (.c (I 0))) 17 true 2047,
 i 21 (.pick E9 O1 (.c (.pv (.bool false)))) 4095,
 i 4 (mv M6) 8191] false)
 .ret)
 .skip))
 (.seq (.b6 [i 22 (.load true 6 t2) 0,
 i 23 (.call (.f v8) [R8]) 1,
 i 5 (mv V1) 3] false)
 (.seq (.b6 [i 24 (.b0 t3 4) 0,
 i 25 (.load false 1 X8) 1,
 i 26 (.bin .geq X6 (.c (I 0))) 3,
 i 27 (mv t26) 7,
 ig 28 (.b0 t3 4) 27 true 15,
 ig 29 (.load false 1 t28) 27 true 31,
 ig 30 (.bin .leq t29 (.c (I 20000))) 27 true 63,
 i 31 (.pick t27 t30 (.c (.pv (.bool false)))) 127,
 i 32 (mv t31) 255,
 ig 33 (.b0 t3 5) 32 true 511,
 ig 34 (.load false 1 t33) 32 true 1023,
 ig 35 (.bin .geq t34 (.c (I 0))) 32 true 2047,
 i 36 (.pick t32 t35 (.c (.pv (.bool false)))) 4095,
 i 37 (mv t36) 8191,
 ig 38 (.b0 t3 6) 37 true 16383,
 ig 39 (.load false 1 t38) 37 true 32767,
 ig 40 (.bin .geq t39 (.c (I 0))) 37 true 65535,
 i 41 (.pick t37 t40 (.c (.pv (.bool false)))) 131071,
 i 42 (mv t41) 262143,
 ig 43 (.b0 t3 5) 42 true 524287,
 ig 44 (.load false 1 t43) 42 true 1048575,
 ig 45 (mv t5) 42 true 524287,
 ig 46 (.bin .leq t44 t45) 42 true 4194303,
 i 47 (.pick t42 t46 (.c (.pv (.bool false)))) 8388607,
 i 48 (mv t47) 16777215,
 ig 49 (.b0 t3 6) 48 true 33554431,
 ig 50 (.load false 1 t49) 48 true 67108863,
 ig 51 (mv t5) 48 true 33554431,
 ig 52 (.b0 t3 5) 48 true 33554431,
 ig 53 (.load false 1 t52) 48 true 301989887,
 ig 54 (.bin .sub t51 t53) 48 true 973078527,
 ig 55 (.bin .leq t50 t54) 48 true 2147483647,
 i 56 (.pick t48 t55 (.c (.pv (.bool false)))) 4294967295,
 i 4 (mv t56) 8589934591] false)
 .ret)))⟩
def a0L:n6:=⟨1,16,[.tmp 2,.tmp 3],
 .seq (.b6 [i 1 (.box 7 t0) 0,
 i 2 (.mv (.c (I 0))) 0,
 i 3 (.mv (.c (I 0))) 2] false)
 (.seq (.b6 [i 7 (.load true 7 t1) 0,
 i 8 (.call (.f B1) [t7]) 1,
 i 6 (mv t8) 3,
 i 9 (.extract t6 0) 7,
 i 10 (.extract t6 1) 7,
 i 4 (.alloc z0) 0,
 iz (.store 7 t4 t9) 47,
 i 5 (mv u2) 127] false)
 (.seq (.seq (.b6 [i 11 (mv t5) 0,
 i 12 (.bin .neq w8 (.c (I 0))) 1] false)
 (.cond z9
 (.seq (.b6 [i 13 (mv t5) 0,
 i 2 (.mv (.c (I 0))) 0,
 i 3 (mv B0) 3] false)
 .ret)
 .skip))
 (.seq (.b6 [i 14 (.load true 7 t4) 0,
 i 15 (.call (.f v9) [D1]) 1,
 i 2 (mv G4) 3,
 i 3 (.mv (.c (I 0))) 7] false)
 .ret)))⟩
def C5:n6:=⟨2,29,[],
 .seq (.b6 [i 7 (.b0 t1 2) 0,
 i 8 (.load false 1 t7) 1,
 i 9 (.b0 t1 3) 0,
 i 10 (.load false 1 t9) 4,
 i 11 (.b0 t1 4) 0,
 i 12 (.load false 1 w8) 16,
 i 13 (.build [.emp 7,.emp 7,.emp 7] [(0,1,t8),(1,1,u2),(2,1,z9)]) 63,
 i 14 (.mv (.c (I 0))) 0] false)
 (.block 0
 (.loop [0,13,14]
 (.seq (.b6 [i 15 (.bin .lss D1 (.c (I 3))) 0] false)
 (.seq (.cond G4
 .skip
 (.exit 0))
 (.seq (.block 1
 (.seq (.b6 [i 16 (.index false 3 1 B0 D1) 0,
 i 4 (mv G5) 1] false)
 (.seq (.b6 [i 17 (mv t4) 0,
 i 18 (.j1 E9) 1,
 i 19 (.mv (.c (I 0))) 0] false)
 (.block 2
 (.loop [0,13,14,17,18,19]
 (.seq (.b6 [i 20 (.bin .lss M0 I4) 0] false)
 (.seq (.cond O1
 .skip
 (.exit 2))
 (.seq (.block 3
 (.seq (.b6 [i 21 (.j4 7 E9 M0) 0,
 i 22 (.load true 7 M6) 1,
 i 6 (.alloc z0) 0,
 iz (.store 7 t6 R8) 7] false)
 (.seq (.b6 [i 23 (mv t0) 0,
 i 24 (.load true 7 t6) 0,
 i 25 (.call V1 [X8]) 3,
 i 26 (.not X6) 7] false)
 (.cond t26
 .ret
 .skip))))
 (.b6 [i 27 (.bin .add M0 (.c (I 1))) 0,
 i 19 (mv t27) 1] false)))))))))
 (.b6 [i 28 (.bin .add D1 (.c (I 1))) 0,
 i 14 (mv t28) 1] false))))))⟩
def a1u:n6:=⟨2,26,[.tmp 4],
 .seq (.b6 [i 3 (.box 7 t1) 0,
 i 4 (.mv (.c (.pv (.bool false)))) 0] false)
 (.scope
 (.seq (.b6 [i 5 (.mv (.c (.pv (.bool true)))) 0] false)
 (.seq .skip
 (.seq (.seq (.b6 [i 8 (.build [.pv (.str []),.pv .nilFunc] [(0,1,.c (.pv (.str [70,111,110,116]))),(1,1,.f E5)]) 0,
 i 9 (.build [.pv (.str []),.pv .nilFunc] [(0,1,.c (.pv (.str [80,97,116,116,101,114,110]))),(1,1,.f E5)]) 0,
 i 10 (.build [.pv (.str []),.pv .nilFunc] [(0,1,.c (.pv (.str [70,111,114,109]))),(1,1,.f E5)]) 0,
 i 11 (.build [.pv (.str []),.pv .nilFunc] [(0,1,.c (.pv (.str [69,110,99,111,100,105,110,103]))),(1,1,.f Q1)]) 0,
 i 12 (.build [.pv (.str []),.pv .nilFunc,.pv (.str []),.pv .nilFunc,.pv (.str []),.pv .nilFunc,.pv (.str []),.pv .nilFunc] [(0,2,t8),(2,2,t9),(4,2,u2),(6,2,w8)]) 15,
 i 13 (.mv (.c (I 0))) 0] false)
 (.block 0
 (.loop [0,3,5,12,13]
 (.seq (.b6 [i 14 (.bin .lss B0 (.c (I 4))) 0] false)
 (.seq (.cond D1
 .skip
 (.exit 0))
 (.seq (.block 1
 (.seq (.b6 [i 15 (.index true 4 2 z9 B0) 0,
 i 7 (.alloc [.pv (.str []),.pv .nilFunc]) 0,
 iz (.store 2 t7 G4) 3] false)
 (.seq (.b6 [i 16 (.b0 t7 0) 0,
 i 17 (.load false 1 G5) 1,
 i 18 (mv t0) 0,
 i 19 (.bin .eql E9 I4) 7] false)
 (.cond M0
 (.seq (.b6 [i 20 (.b0 t7 1) 0,
 i 21 (.load false 1 O1) 1,
 i 22 (.load true 7 t3) 0,
 i 23 (.call M6 [R8]) 7,
 i 5 (mv V1) 15] false)
 (.exit 0))
 .skip))))
 (.b6 [i 24 (.bin .add B0 (.c (I 1))) 0,
 i 13 (mv X8) 1] false)))))))
 (.seq (.b6 [i 25 (mv t5) 0,
 i 4 (mv X6) 1] false)
 .ret)))))⟩
def N0:n6:=⟨4,40,[.cell 8 true 67,.tmp 9],
 .seq (.b6 [i 4 (.box 67 t0) 0,
 i 5 (.box 29 t1) 0,
 i 8 (.alloc z1) 0,
 i 9 (.mv (.c (I 0))) 0] false)
 (.seq (.b6 [i 14 (.b0 t4 0) 0,
 i 15 (.load true 67 D1) 1,
 i 16 (.b0 t5 28) 0,
 i 17 (.load false 1 G5) 4,
 i 18 (.call (.f Q2) [G4,E9]) 15,
 i 13 (mv I4) 31,
 i 19 (.extract B0 0) 63,
 i 20 (.extract B0 1) 63,
 i 10 (.alloc z1) 0,
 iz (.store 67 u2 M0) 383,
 i 11 (mv O1) 1023] false)
 (.seq (.seq (.b6 [i 21 (mv w8) 0,
 i 22 (.bin .neq M6 (.c (I 0))) 1] false)
 (.cond R8
 (.seq (.b6 [i 23 (.b0 t4 0) 0,
 i 24 (.load true 67 V1) 1,
 i 25 (mv w8) 0,
 iz (.store 67 t8 X8) 3,
 i 9 (mv X6) 15] false)
 .ret)
 .skip))
 (.seq (.b6 [i 27 (.load true 67 u2) 0,
 i 28 (mv t3) 0,
 i 29 (.call (.f D5) [t27,t28]) 3,
 i 26 (mv t29) 7,
 i 30 (.extract t26 0) 15,
 i 31 (.extract t26 1) 15,
 i 12 (.alloc z1) 0,
 iz (.store 67 z9 t30) 95,
 i 11 (mv t31) 255] false)
 (.seq (.seq (.b6 [i 32 (mv w8) 0,
 i 33 (.bin .neq t32 (.c (I 0))) 1] false)
 (.cond t33
 (.seq (.b6 [i 34 (.b0 t4 0) 0,
 i 35 (.load true 67 t34) 1,
 i 36 (mv w8) 0,
 iz (.store 67 t8 t35) 3,
 i 9 (mv t36) 15] false)
 .ret)
 .skip))
 (.seq (.b6 [i 37 (mv t2) 0,
 i 38 (.b0 z9 2) 1,
 iz (.store 1 t38 t37) 3] false)
 (.seq (.b6 [i 39 (.load true 67 z9) 0,
 iz (.store 67 t8 t39) 1,
 i 9 (.mv (.c (I 0))) 3] false)
 .ret))))))⟩
def C3:n6:=⟨2,9,[.tmp 4],
 .seq (.b6 [i 4 (.mv (.c (.pv (.bool false)))) 0] false)
 (.seq (.b6 [i 5 (mv t0) 0,
 i 6 (mv t1) 0,
 i 7 (.call (.f C9) [t5,t6]) 3,
 i 8 (.bin .geq t7 (.c (I 0))) 7,
 i 4 (mv t8) 15] false)
 .ret)⟩
def a0K:n6:=⟨1,20,[.cell 2 true 7,.tmp 3],
 .seq (.b6 [i 1 (.box 7 t0) 0,
 i 2 (.alloc z0) 0,
 i 3 (.mv (.c (I 0))) 0] false)
 (.seq (.b6 [i 7 (.load true 7 t1) 0,
 i 8 (.call (.f E0) [t7]) 1,
 i 6 (mv t8) 3,
 i 9 (.extract t6 0) 7,
 i 10 (.extract t6 1) 7,
 i 4 (mv t9) 15,
 i 5 (mv u2) 63] false)
 (.seq (.seq (.b6 [i 11 (mv t5) 0,
 i 12 (.bin .neq w8 (.c (I 0))) 1] false)
 (.cond z9
 (.seq (.b6 [i 13 (.build z0 []) 0,
 i 14 (mv t5) 0,
 iz (.store 7 t2 B0) 1,
 i 3 (mv D1) 7] false)
 .ret)
 .skip))
 (.seq (.b6 [i 15 (mv t4) 0,
 i 16 (.bin .quo G4 (.c (I 65536))) 1,
 i 17 (.call (.f W1) [G5]) 3,
 i 18 (.extract E9 0) 7,
 i 19 (.extract E9 1) 7,
 iz (.store 7 t2 I4) 31,
 i 3 (mv M0) 63] false)
 .ret)))⟩
def J8:n6:=⟨2,15,[.cell 4 true 7,.tmp 5],
 .seq (.b6 [i 4 (.alloc z0) 0,
 i 5 (.mv (.c (I 0))) 0] false)
 (.seq (.b6 [i 7 (mv t1) 0,
 i 8 (mv t0) 0,
 i 9 (.call t7 [t8]) 3,
 i 6 (.alloc z0) 0,
 iz (.store 7 t6 t9) 15] false)
 (.seq (.seq (.b6 [i 10 (.load true 7 t6) 0,
 i 11 (.call (.f o4) [u2]) 1,
 i 12 (.bin .neq w8 (.c (I 0))) 3] false)
 (.cond z9
 (.seq (.b6 [i 13 (.build z0 []) 0,
 iz (.store 7 t4 B0) 1,
 i 5 (.mv (.c (I 2))) 3] false)
 .ret)
 .skip))
 (.seq (.b6 [i 14 (.load true 7 t6) 0,
 iz (.store 7 t4 D1) 1,
 i 5 (.mv (.c (I 0))) 3] false)
 .ret)))⟩
def Z5:n6:=⟨2,7,[.cell 3 true 7],
 .seq (.b6 [i 3 (.alloc z0) 0] false)
 (.seq (.b6 [i 4 (mv t0) 0,
 i 5 (.load false 1 t1) 0,
 i 6 (.build z0 [(0,1,.c (I 5)),(3,1,t4),(1,1,t5)]) 3,
 iz (.store 7 t3 t6) 7] false)
 .ret)⟩
def I9:n6:=⟨2,9,[.tmp 4],
 .seq (.b6 [i 4 (.mv (.c (.pv (.bool false)))) 0] false)
 (.seq (.b6 [i 5 (mv t0) 0,
 i 6 (mv t1) 0,
 i 7 (.call (.f B3) [t5,t6]) 3,
 i 8 (.bin .geq t7 (.c (I 0))) 7,
 i 4 (mv t8) 15] false)
 .ret)⟩
def v3:n6:=⟨2,20,[],
 .seq (.b6 [i 5 (.b0 t1 0) 0,
 i 6 (.b0 t5 3) 1,
 i 7 (.load false 1 t6) 3,
 i 8 (.j1 t7) 7,
 i 9 (.mv (.c (I 0))) 0] false)
 (.block 0
 (.loop [0,7,8,9]
 (.seq (.b6 [i 10 (.bin .lss t9 t8) 0] false)
 (.seq (.cond u2
 .skip
 (.exit 0))
 (.seq (.block 1
 (.seq (.b6 [i 11 (mv t9) 0,
 i 12 (.j4 3 t7 t9) 0,
 i 13 (.load true 3 z9) 2,
 i 4 (.alloc [I 0,.emp 7,I 0]) 0,
 i 3 (mv w8) 15,
 iz (.store 3 t4 B0) 31] false)
 (.seq (.b6 [i 14 (mv t0) 0,
 i 15 (mv t3) 0,
 i 16 (.load true 3 t4) 0,
 i 17 (.call D1 [G4,G5]) 7,
 i 18 (.not E9) 15] false)
 (.cond I4
 .ret
 .skip))))
 (.b6 [i 19 (.bin .add t9 (.c (I 1))) 0,
 i 9 (mv M0) 1] false))))))⟩
def C2:n6:=⟨1,7,[.tmp 2],
 .seq (.b6 [i 1 (.box 6 t0) 0,
 i 2 (.mv (.c (I 0))) 0] false)
 (.seq (.b6 [i 3 (.build [I 0,I 0,I 0,I 0] [(0,1,.c (I 0)),(1,1,.c (I 1000)),(2,1,.c (I 1000)),(3,1,.c (I 0))]) 0,
 i 4 (.b0 t1 5) 0,
 i 5 (.load false 1 t4) 2,
 i 6 (.index false 4 1 t3 t5) 7,
 i 2 (mv t6) 15] false)
 .ret)⟩
def S8:n6:=⟨1,22,[.cell 2 true 7,.tmp 3],
 .seq (.b6 [i 1 (.box 7 t0) 0,
 i 2 (.alloc z0) 0,
 i 3 (.mv (.c (I 0))) 0] false)
 (.seq (.seq (.b6 [i 5 (.load true 7 t1) 0,
 i 6 (.call (.f o4) [t5]) 1,
 i 4 (mv t6) 3] false)
 (.seq (.b6 [i 7 (mv t4) 0,
 i 8 (.bin .neq t7 (.c (I 0))) 1] false)
 (.cond t8
 (.seq (.b6 [i 9 (.build z0 []) 0,
 i 10 (mv t4) 0,
 iz (.store 7 t2 t9) 1,
 i 3 (mv u2) 7] false)
 .ret)
 .skip)))
 (.seq (.seq (.b6 [i 11 (.b0 t1 0) 0,
 i 12 (.load false 1 w8) 1,
 i 13 (.bin .neq z9 (.c (I 3))) 3,
 i 14 (mv B0) 7,
 ig 15 (.b0 t1 0) 14 true 15,
 ig 16 (.load false 1 G4) 14 true 31,
 ig 17 (.bin .neq G5 (.c (I 4))) 14 true 63,
 i 18 (.pick D1 E9 (.c (.pv (.bool false)))) 127] false)
 (.cond I4
 (.seq (.b6 [i 19 (.build z0 []) 0,
 iz (.store 7 t2 M0) 1,
 i 3 (.mv (.c (I 22))) 3] false)
 .ret)
 .skip))
 (.seq (.b6 [i 20 (.load true 7 t1) 0,
 i 21 (.build z0 [(0,7,O1)]) 1,
 iz (.store 7 t2 M6) 3,
 i 3 (.mv (.c (I 0))) 7] false)
 .ret)))⟩
def I1:n6:=⟨1,14,[.tmp 2],
 .seq (.b6 [i 1 (.box 7 t0) 0,
 i 2 (.mv (.c (I 0))) 0] false)
 (.seq (.seq (.b6 [i 3 (.b0 t1 0) 0,
 i 4 (.b0 t3 0) 1,
 i 5 (.load false 1 t4) 3,
 i 6 (.bin .eql t5 (.c (I 3))) 7] false)
 (.cond t6
 (.seq (.b6 [i 7 (.b0 t1 0) 0,
 i 8 (.b0 t7 2) 1,
 i 9 (.load false 1 t8) 3,
 i 10 (.bin .mul t9 (.c (I 65536))) 7,
 i 2 (mv u2) 15] false)
 .ret)
 .skip))
 (.seq (.b6 [i 11 (.b0 t1 0) 0,
 i 12 (.b0 w8 2) 1,
 i 13 (.load false 1 z9) 3,
 i 2 (mv B0) 7] false)
 .ret))⟩
def a0N:n6:=⟨1,6,[.tmp 2],
 .seq (.b6 [i 1 (.box 7 t0) 0,
 i 2 (.mv (.c (.pv (.bool false)))) 0] false)
 (.seq (.b6 [i 3 (.b0 t1 0) 0,
 i 4 (.load false 1 t3) 1,
 i 5 (.bin .eql t4 (.c (I 9))) 3,
 i 2 (mv t5) 7] false)
 .ret)⟩
def a0i:n6:=⟨1,11,[.tmp 2],
 .seq (.b6 [i 1 (.box 7 t0) 0,
 i 2 (.mv (.c (.pv (.bool false)))) 0] false)
 (.seq (.b6 [i 3 (.b0 t1 0) 0,
 i 4 (.load false 1 t3) 1,
 i 5 (.bin .eql t4 (.c (I 7))) 3,
 i 6 (mv t5) 7,
 ig 7 (.b0 t1 0) 6 false 15,
 ig 8 (.load false 1 t7) 6 false 31,
 ig 9 (.bin .eql t8 (.c (I 8))) 6 false 63,
 i 10 (.pick t6 (.c (.pv (.bool true))) t9) 127,
 i 2 (mv u2) 255] false)
 .ret)⟩
def G8:n6:=⟨2,19,[.tmp 4],
 .seq (.b6 [i 4 (.mv (.c (I 0))) 0] false)
 (.seq (.seq (.b6 [i 6 (mv t0) 0,
 i 7 (.j1 t6) 1,
 i 8 (.mv (.c (I 0))) 0] false)
 (.block 0
 (.loop [0,1,7,8]
 (.seq (.b6 [i 9 (.bin .lss t8 t7) 0] false)
 (.seq (.cond t9
 .skip
 (.exit 0))
 (.seq (.block 1
 (.seq (.b6 [i 10 (mv t8) 0,
 i 5 (mv u2) 1] false)
 (.seq (.b6 [i 11 (mv t1) 0,
 i 12 (mv t0) 0,
 i 13 (mv t5) 0,
 i 14 (.j4 1 z9 B0) 6,
 i 15 (.load false 1 D1) 14,
 i 16 (.bin .eql w8 G4) 31] false)
 (.cond G5
 (.seq (.b6 [i 17 (mv t5) 0,
 i 4 (mv E9) 1] false)
 .ret)
 .skip))))
 (.b6 [i 18 (.bin .add t8 (.c (I 1))) 0,
 i 8 (mv I4) 1] false)))))))
 (.seq (.b6 [i 4 (.mv (.c (I (-1)))) 0] false)
 .ret))⟩
def a2S:n6:=⟨1,8,[.cell 2 true 7,.tmp 3],
 .seq (.b6 [i 2 (.alloc z0) 0,
 i 3 (.mv (.c (I 0))) 0] false)
 (.seq (.b6 [i 4 (mv t0) 0,
 i 5 (.call (.f E4) [t4,.f H4]) 1,
 i 6 (.extract t5 0) 3,
 i 7 (.extract t5 1) 3,
 iz (.store 7 t2 t6) 15,
 i 3 (mv t7) 31] false)
 .ret)⟩
def P1:n6:=⟨2,19,[.tmp 4],
 .seq (.b6 [i 4 (.mv (.c (I 0))) 0] false)
 (.seq (.seq (.b6 [i 6 (mv t0) 0,
 i 7 (.j1 t6) 1,
 i 8 (.mv (.c (I 0))) 0] false)
 (.block 0
 (.loop [0,1,7,8]
 (.seq (.b6 [i 9 (.bin .lss t8 t7) 0] false)
 (.seq (.cond t9
 .skip
 (.exit 0))
 (.seq (.block 1
 (.seq (.b6 [i 10 (mv t8) 0,
 i 5 (mv u2) 1] false)
 (.seq (.b6 [i 11 (mv t1) 0,
 i 12 (mv t0) 0,
 i 13 (mv t5) 0,
 i 14 (.j4 7 z9 B0) 6,
 i 15 (.load true 7 D1) 14,
 i 16 (.call w8 [G4]) 31] false)
 (.cond G5
 (.seq (.b6 [i 17 (mv t5) 0,
 i 4 (mv E9) 1] false)
 .ret)
 .skip))))
 (.b6 [i 18 (.bin .add t8 (.c (I 1))) 0,
 i 8 (mv I4) 1] false)))))))
 (.seq (.b6 [i 4 (.mv (.c (I (-1)))) 0] false)
 .ret))⟩
def S7:n6:=⟨2,15,[.cell 4 true 7,.tmp 5],
 .seq (.b6 [i 4 (.alloc z0) 0,
 i 5 (.mv (.c (I 0))) 0] false)
 (.seq (.b6 [i 7 (mv t1) 0,
 i 8 (mv t0) 0,
 i 9 (.call t7 [t8]) 3,
 i 6 (.alloc z0) 0,
 iz (.store 7 t6 t9) 15] false)
 (.seq (.seq (.b6 [i 10 (.load true 7 t6) 0,
 i 11 (.call (.f o4) [u2]) 1,
 i 12 (.bin .neq w8 (.c (I 0))) 3] false)
 (.cond z9
 (.seq (.b6 [i 13 (.build z0 []) 0,
 iz (.store 7 t4 B0) 1,
 i 5 (.mv (.c (I 2))) 3] false)
 .ret)
 .skip))
 (.seq (.b6 [i 14 (.load true 7 t6) 0,
 iz (.store 7 t4 D1) 1,
 i 5 (.mv (.c (I 0))) 3] false)
 .ret)))⟩
def a0J:n6:=⟨1,5,[.cell 2 true 7],
 .seq (.b6 [i 2 (.alloc z0) 0] false)
 (.seq (.b6 [i 3 (mv t0) 0,
 i 4 (.build z0 [(0,1,.c (I 3)),(2,1,t3)]) 1,
 iz (.store 7 t2 t4) 3] false)
 .ret)⟩
end Go.Ab.Td
namespace Go.Ab.Td
open Go.Ab
def c9P:TF:=(.node (.node (.node (.node (.node (.leaf K3 a5F) (.leaf a1U a7Z)) (.node (.leaf a6c a8x) (.leaf C7 b0q))) (.node (.node (.leaf a1a a9e) (.node (.leaf i7 a3y) (.leaf G1 V3))) (.node (.node (.leaf a1I a4V) (.leaf a3d a5G)) (.node (.leaf Y5 a4x) (.leaf P7 a2N))))) (.node (.node (.node (.leaf a1V a8b) (.leaf q0 a4b)) (.node (.leaf Q0 a2U) (.node (.leaf a3g a5N) (.leaf J2 Z4)))) (.node (.node (.leaf A6 a2h) (.leaf e9 a4Y)) (.node (.leaf M4 X4) (.leaf a3e a5H))))) (.node (.node (.node (.node (.leaf F7 a2P) (.node (.leaf a4m b1k) (.leaf Y7 a4A))) (.node .nil (.node (.leaf o5 S9) (.leaf o6 z6)))) (.leaf L7 a4B)) (.node (.node (.node (.leaf O4 a3Z) (.node (.leaf B2 b2H) (.leaf R5 a4D))) (.node (.leaf H6 a0h) (.leaf a1Z a8f))) (.node (.leaf V9 a2R) (.node (.node (.leaf R4 a4C) (.leaf a3f a5J)) (.leaf a0s a5I))))))
def c9Q:TF:=(.node (.node (.node (.node (.node (.node (.leaf U4 a3Y) (.leaf C8 a0j)) (.leaf R1 a2y)) (.node (.leaf k7 G7) (.leaf W2 a4W))) (.node (.node (.leaf Y8 a7Y) (.leaf L0 a5O)) (.node (.leaf F2 X0) (.leaf x4 a0k)))) (.node (.node (.node (.leaf O5 a6L) (.leaf a1T a4z)) (.leaf Z0 a8a)) (.node (.node (.leaf D9 T8) (.leaf Z1 a8g)) (.node (.leaf V8 a2Q) (.leaf u0 O9))))) (.node (.node (.node (.node (.node (.leaf P8 a2O) (.leaf a0Z a3x)) (.leaf a3H a8y)) (.node (.leaf m7 P0) (.leaf W3 a4X))) (.node (.node (.leaf K4 a0I) (.leaf u4 a6p)) (.node (.leaf C6 G6) (.leaf l5 R9)))) (.node (.node (.node (.node (.leaf a1S a4v) (.leaf F8 a5K)) (.leaf R3 a1N)) (.node (.leaf a1X a8d) (.leaf K7 a9g))) (.node (.node (.node (.leaf L8 a1P) (.leaf H3 a0g)) (.leaf a0y b1l)) (.node (.leaf s9 a5L) (.leaf u7 V4))))))
def c9R:TF:=(.node (.node (.node (.node (.node (.leaf C0 I8) (.leaf P9 a2T)) (.node (.node (.leaf m8 O8) (.leaf o4 T9)) (.leaf Y6 a4y))) (.node (.leaf N6 a3w) (.node (.node (.leaf o9 M8) (.leaf K5 a4a)) (.leaf K9 T0)))) (.node (.node (.leaf u1 P2) (.node (.node (.leaf A2 Y0) (.leaf G0 X9)) (.leaf D4 L5))) (.node (.node .nil (.node (.leaf s7 D7) (.leaf L6 a1M))) (.node (.node (.leaf y1 M9) (.leaf W0 a1t)) (.leaf B8 I6))))) (.node (.node (.node (.leaf Y9 a1O) (.node (.node (.leaf y2 a0M) (.leaf B5 Q7)) (.leaf a7B b0p))) (.node (.leaf K8 a5M) (.node (.node (.leaf D8 J7) (.leaf u6 L4)) (.leaf B7 I5)))) (.node (.node (.node .nil (.node (.leaf F4 X3) (.leaf U5 a0H))) (.node (.leaf N7 V2) (.leaf R0 Z6))) (.node (.node .nil (.node (.leaf w7 N1) (.leaf V7 b0o))) (.node (.node (.leaf F1 M1) (.leaf Y4 a4w)) (.leaf B9 I7))))))
def c9S:TF:=(.node (.node (.node (.node (.node (.node (.leaf H4 a0J) (.leaf F3 X1)) (.leaf z8 C3)) (.node .nil (.node (.leaf a1Y a8e) (.leaf v9 I1)))) (.node (.node (.leaf H5 U0) (.leaf y7 I9)) (.node (.leaf y0 C5) (.node (.leaf O6 a4c) (.leaf C9 G8))))) (.node (.node (.leaf E1 J8) (.node (.leaf E0 a0L) (.node (.leaf a1W a8c) (.leaf Q1 a0i)))) (.node (.node (.leaf u9 F0) (.leaf v8 C2)) (.node (.leaf p7 N0) (.node (.leaf Q2 a2V) (.leaf B3 P1)))))) (.node (.node (.node (.leaf N8 a0K) (.node .nil (.node (.leaf K6 a9f) (.leaf E5 a0N)))) (.node (.node (.leaf r9 D6) (.leaf n5 v3)) (.node (.leaf W4 a1u) (.node (.leaf n8 N2) (.leaf W1 a2S))))) (.node (.node (.node (.leaf C4 S0) (.leaf Q9 Z5)) (.leaf D5 a2W)) (.node (.node (.leaf n7 A5) (.leaf B1 S8)) (.node .nil (.node (.leaf J3 a2z) (.leaf E4 S7)))))))
structure Laid (P:Program):Prop where
 mixed:P.follows .mixedOrders=true
 t0:c9P.all (d8 P)=true
 t1:c9Q.all (d8 P)=true
 t2:c9R.all (d8 P)=true
 t3:c9S.all (d8 P)=true
variable {P:Program} (C:Laid P)
include C
theorem b0C:d8 P a1I a4V=true:=TF.d6 C.t0 _ _ rfl
theorem b4m:d8 P R4 a4C=true:=TF.d6 C.t0 _ _ rfl
theorem b4l:d8 P a1U a7Z=true:=TF.d6 C.t0 _ _ rfl
theorem b7s:d8 P a4m b1k=true:=TF.d6 C.t0 _ _ rfl
theorem T3:d8 P q0 a4b=true:=TF.d6 C.t0 _ _ rfl
theorem H0:d8 P B2 b2H=true:=TF.d6 C.t0 _ _ rfl
theorem l6:d8 P i7 a3y=true:=TF.d6 C.t0 _ _ rfl
theorem a8k:d8 P L7 a4B=true:=TF.d6 C.t0 _ _ rfl
theorem b0G:d8 P e9 a4Y=true:=TF.d6 C.t0 _ _ rfl
theorem a9E:d8 P V9 a2R=true:=TF.d6 C.t0 _ _ rfl
theorem a7y:d8 P C7 b0q=true:=TF.d6 C.t0 _ _ rfl
theorem a0X:d8 P o5 S9=true:=TF.d6 C.t0 _ _ rfl
theorem b6l:d8 P a3g a5N=true:=TF.d6 C.t0 _ _ rfl
theorem b4r:d8 P a1Z a8f=true:=TF.d6 C.t0 _ _ rfl
theorem b4g:d8 P Y5 a4x=true:=TF.d6 C.t0 _ _ rfl
theorem a9B:d8 P K3 a5F=true:=TF.d6 C.t0 _ _ rfl
theorem a5W:d8 P F7 a2P=true:=TF.d6 C.t0 _ _ rfl
theorem b4n:d8 P a1V a8b=true:=TF.d6 C.t0 _ _ rfl
theorem a6Y:d8 P O4 a3Z=true:=TF.d6 C.t0 _ _ rfl
theorem b6i:d8 P a1a a9e=true:=TF.d6 C.t0 _ _ rfl
theorem a4g:d8 P A6 a2h=true:=TF.d6 C.t0 _ _ rfl
theorem b8z:d8 P a6c a8x=true:=TF.d6 C.t0 _ _ rfl
theorem a5Z:d8 P Q0 a2U=true:=TF.d6 C.t0 _ _ rfl
theorem a8E:d8 P H6 a0h=true:=TF.d6 C.t0 _ _ rfl
theorem b6d:d8 P a3d a5G=true:=TF.d6 C.t0 _ _ rfl
theorem a7O:d8 P M4 X4=true:=TF.d6 C.t0 _ _ rfl
theorem b6f:d8 P a3f a5J=true:=TF.d6 C.t0 _ _ rfl
theorem b4j:d8 P Y7 a4A=true:=TF.d6 C.t0 _ _ rfl
theorem b4t:d8 P R5 a4D=true:=TF.d6 C.t0 _ _ rfl
theorem a1F:d8 P G1 V3=true:=TF.d6 C.t0 _ _ rfl
theorem a4i:d8 P o6 z6=true:=TF.d6 C.t0 _ _ rfl
theorem a6r:d8 P J2 Z4=true:=TF.d6 C.t0 _ _ rfl
theorem a9A:d8 P P7 a2N=true:=TF.d6 C.t0 _ _ rfl
theorem b6e:d8 P a3e a5H=true:=TF.d6 C.t0 _ _ rfl
theorem b3b:d8 P a0s a5I=true:=TF.d6 C.t0 _ _ rfl
theorem b1u:d8 P U4 a3Y=true:=TF.d6 C.t1 _ _ rfl
theorem a9C:d8 P P8 a2O=true:=TF.d6 C.t1 _ _ rfl
theorem b4e:d8 P a1S a4v=true:=TF.d6 C.t1 _ _ rfl
theorem b4k:d8 P Y8 a7Y=true:=TF.d6 C.t1 _ _ rfl
theorem a4G:d8 P L8 a1P=true:=TF.d6 C.t1 _ _ rfl
theorem H2:d8 P k7 G7=true:=TF.d6 C.t1 _ _ rfl
theorem a0p:d8 P m7 P0=true:=TF.d6 C.t1 _ _ rfl
theorem b4p:d8 P a1X a8d=true:=TF.d6 C.t1 _ _ rfl
theorem a7M:d8 P F2 X0=true:=TF.d6 C.t1 _ _ rfl
theorem a0o:d8 P C6 G6=true:=TF.d6 C.t1 _ _ rfl
theorem a9D:d8 P V8 a2Q=true:=TF.d6 C.t1 _ _ rfl
theorem b6h:d8 P s9 a5L=true:=TF.d6 C.t1 _ _ rfl
theorem b1L:d8 P R1 a2y=true:=TF.d6 C.t1 _ _ rfl
theorem b8A:d8 P a3H a8y=true:=TF.d6 C.t1 _ _ rfl
theorem b4i:d8 P a1T a4z=true:=TF.d6 C.t1 _ _ rfl
theorem a8j:d8 P R3 a1N=true:=TF.d6 C.t1 _ _ rfl
theorem a9I:d8 P L0 a5O=true:=TF.d6 C.t1 _ _ rfl
theorem a6t:d8 P u4 a6p=true:=TF.d6 C.t1 _ _ rfl
theorem b4s:d8 P Z1 a8g=true:=TF.d6 C.t1 _ _ rfl
theorem b7t:d8 P a0y b1l=true:=TF.d6 C.t1 _ _ rfl
theorem b0E:d8 P W2 a4W=true:=TF.d6 C.t1 _ _ rfl
theorem b0F:d8 P W3 a4X=true:=TF.d6 C.t1 _ _ rfl
theorem a8m:d8 P Z0 a8a=true:=TF.d6 C.t1 _ _ rfl
theorem b6k:d8 P K7 a9g=true:=TF.d6 C.t1 _ _ rfl
theorem P4:d8 P x4 a0k=true:=TF.d6 C.t1 _ _ rfl
theorem v7:d8 P l5 R9=true:=TF.d6 C.t1 _ _ rfl
theorem P5:d8 P u0 O9=true:=TF.d6 C.t1 _ _ rfl
theorem a1G:d8 P u7 V4=true:=TF.d6 C.t1 _ _ rfl
theorem a3F:d8 P C8 a0j=true:=TF.d6 C.t1 _ _ rfl
theorem b3c:d8 P a0Z a3x=true:=TF.d6 C.t1 _ _ rfl
theorem b7r:d8 P O5 a6L=true:=TF.d6 C.t1 _ _ rfl
theorem b6g:d8 P F8 a5K=true:=TF.d6 C.t1 _ _ rfl
theorem a4h:d8 P K4 a0I=true:=TF.d6 C.t1 _ _ rfl
theorem a2m:d8 P D9 T8=true:=TF.d6 C.t1 _ _ rfl
theorem a3B:d8 P H3 a0g=true:=TF.d6 C.t1 _ _ rfl
theorem a0T:d8 P o4 T9=true:=TF.d6 C.t2 _ _ rfl
theorem a0b:d8 P B5 Q7=true:=TF.d6 C.t2 _ _ rfl
theorem a1R:d8 P G0 X9=true:=TF.d6 C.t2 _ _ rfl
theorem a9F:d8 P K5 a4a=true:=TF.d6 C.t2 _ _ rfl
theorem Y2:d8 P u6 L4=true:=TF.d6 C.t2 _ _ rfl
theorem b0D:d8 P W0 a1t=true:=TF.d6 C.t2 _ _ rfl
theorem b4f:d8 P Y4 a4w=true:=TF.d6 C.t2 _ _ rfl
theorem a6X:d8 P U5 a0H=true:=TF.d6 C.t2 _ _ rfl
theorem a6Z:d8 P N6 a3w=true:=TF.d6 C.t2 _ _ rfl
theorem a8i:d8 P L6 a1M=true:=TF.d6 C.t2 _ _ rfl
theorem c0J:d8 P V7 b0o=true:=TF.d6 C.t2 _ _ rfl
theorem b4h:d8 P Y6 a4y=true:=TF.d6 C.t2 _ _ rfl
theorem c0K:d8 P a7B b0p=true:=TF.d6 C.t2 _ _ rfl
theorem a4H:d8 P D4 L5=true:=TF.d6 C.t2 _ _ rfl
theorem a6u:d8 P R0 Z6=true:=TF.d6 C.t2 _ _ rfl
theorem a4j:d8 P K9 T0=true:=TF.d6 C.t2 _ _ rfl
theorem a3T:d8 P B7 I5=true:=TF.d6 C.t2 _ _ rfl
theorem a3U:d8 P B8 I6=true:=TF.d6 C.t2 _ _ rfl
theorem a3V:d8 P B9 I7=true:=TF.d6 C.t2 _ _ rfl
theorem a3W:d8 P C0 I8=true:=TF.d6 C.t2 _ _ rfl
theorem V6:d8 P m8 O8=true:=TF.d6 C.t2 _ _ rfl
theorem a3b:d8 P y2 a0M=true:=TF.d6 C.t2 _ _ rfl
theorem a4F:d8 P A2 Y0=true:=TF.d6 C.t2 _ _ rfl
theorem a5j:d8 P N7 V2=true:=TF.d6 C.t2 _ _ rfl
theorem a1D:d8 P o9 M8=true:=TF.d6 C.t2 _ _ rfl
theorem a2l:d8 P D8 J7=true:=TF.d6 C.t2 _ _ rfl
theorem a1E:d8 P y1 M9=true:=TF.d6 C.t2 _ _ rfl
theorem a2H:d8 P F1 M1=true:=TF.d6 C.t2 _ _ rfl
theorem a5Y:d8 P P9 a2T=true:=TF.d6 C.t2 _ _ rfl
theorem a8l:d8 P Y9 a1O=true:=TF.d6 C.t2 _ _ rfl
theorem a0q:d8 P u1 P2=true:=TF.d6 C.t2 _ _ rfl
theorem a7N:d8 P F4 X3=true:=TF.d6 C.t2 _ _ rfl
theorem a9G:d8 P K8 a5M=true:=TF.d6 C.t2 _ _ rfl
theorem a2o:d8 P s7 D7=true:=TF.d6 C.t2 _ _ rfl
theorem a5l:d8 P w7 N1=true:=TF.d6 C.t2 _ _ rfl
theorem b4q:d8 P a1Y a8e=true:=TF.d6 C.t3 _ _ rfl
theorem b6j:d8 P K6 a9f=true:=TF.d6 C.t3 _ _ rfl
theorem b4o:d8 P a1W a8c=true:=TF.d6 C.t3 _ _ rfl
theorem a3c:d8 P D5 a2W=true:=TF.d6 C.t3 _ _ rfl
theorem a4k:d8 P O6 a4c=true:=TF.d6 C.t3 _ _ rfl
theorem a0w:d8 P n8 N2=true:=TF.d6 C.t3 _ _ rfl
theorem a6a:d8 P Q2 a2V=true:=TF.d6 C.t3 _ _ rfl
theorem a6v:d8 P J3 a2z=true:=TF.d6 C.t3 _ _ rfl
theorem a2I:d8 P F3 X1=true:=TF.d6 C.t3 _ _ rfl
theorem a1p:d8 P C4 S0=true:=TF.d6 C.t3 _ _ rfl
theorem a0U:d8 P H5 U0=true:=TF.d6 C.t3 _ _ rfl
theorem K2:d8 P r9 D6=true:=TF.d6 C.t3 _ _ rfl
theorem M3:d8 P u9 F0=true:=TF.d6 C.t3 _ _ rfl
theorem E3:d8 P n7 A5=true:=TF.d6 C.t3 _ _ rfl
theorem a3E:d8 P E0 a0L=true:=TF.d6 C.t3 _ _ rfl
theorem a1C:d8 P y0 C5=true:=TF.d6 C.t3 _ _ rfl
theorem b0H:d8 P W4 a1u=true:=TF.d6 C.t3 _ _ rfl
theorem a5k:d8 P p7 N0=true:=TF.d6 C.t3 _ _ rfl
theorem S4:d8 P z8 C3=true:=TF.d6 C.t3 _ _ rfl
theorem a3D:d8 P N8 a0K=true:=TF.d6 C.t3 _ _ rfl
theorem a2n:d8 P E1 J8=true:=TF.d6 C.t3 _ _ rfl
theorem a6s:d8 P Q9 Z5=true:=TF.d6 C.t3 _ _ rfl
theorem W8:d8 P y7 I9=true:=TF.d6 C.t3 _ _ rfl
theorem S3:d8 P n5 v3=true:=TF.d6 C.t3 _ _ rfl
theorem I2:d8 P v8 C2=true:=TF.d6 C.t3 _ _ rfl
theorem a0W:d8 P B1 S8=true:=TF.d6 C.t3 _ _ rfl
theorem S2:d8 P v9 I1=true:=TF.d6 C.t3 _ _ rfl
theorem a9H:d8 P E5 a0N=true:=TF.d6 C.t3 _ _ rfl
theorem a8F:d8 P Q1 a0i=true:=TF.d6 C.t3 _ _ rfl
theorem a0r:d8 P C9 G8=true:=TF.d6 C.t3 _ _ rfl
theorem a5X:d8 P W1 a2S=true:=TF.d6 C.t3 _ _ rfl
theorem a0Y:d8 P B3 P1=true:=TF.d6 C.t3 _ _ rfl
theorem a0V:d8 P E4 S7=true:=TF.d6 C.t3 _ _ rfl
theorem a3C:d8 P H4 a0J=true:=TF.d6 C.t3 _ _ rfl
end Go.Ab.Td
